import PyProof.Rows.All
import Wide.All
import OpenK.AllK
import Wide.FinOn
import HandS.ForMost
import HandS.Exc
import HandS.TryOnly
import HandS.ExcOwn
import HandS.Star
import HandS.CallSlots
import HandS.Lambda
import HandS.Wide
import HandS.IsInst
import HandS.TupAny
import HandS.Defaults
import HandS.SetKeys
import HandS.FStr
import KE.SortData
import KE.KxIndex
import HandS.HeadHook1
import HandS.HeadHook2
import PyProof.ExcBaseAll.ValueError
import PyProof.Rows.SetFrom
import HandS.TupSets
import KE.KeyNested
import HandS.Strs
import HandS.Style
import HandS.TupLe
import HandS.TupMul
import HandS.Zip
import HandS.DictComp
import KE.LtData
import HandS.RaiseMore
import HandS.HeadWalk
import HandS.HeadEnd
import HandS.TryMany
import HandS.HeadHook4
import HandS.EndTab
import HandS.Set
import KE.KDictZip
import PyProof.ListNew
import PyProof.Ns1
import KE.KStateDown
import KE.KNestM
import HandS.Head0
import HandS.Head1
import HandS.Head2
import HandS.HeadHook3
import PySem.Challenge.RW_shownpart_k03_terms_replaced_and_renamed
set_option Elab.async false
set_option linter.all false
set_option maxRecDepth 100000
set_option maxHeartbeats 0
/-! Data-level words over the hand layer: values as data D, a store O of objects that may change, readings over data. -/
namespace DS
open PySem PySem.Spec PyProof.Rows L2

/-- a text as its codes -/
def tx (cs : List Nat) : Str := ⟨cs.toArray⟩
def cd (x : Str) : List Nat := x.cps.toList
theorem cd_tx (cs : List Nat) : cd (tx cs) = cs := by simp [cd, tx]
theorem tx_cd (x : Str) : tx (cd x) = x := by simp [cd, tx]
theorem tx_inj {a b : List Nat} (h : tx a = tx b) : a = b := by rw [← cd_tx a, h, cd_tx]
theorem tx_len (cs : List Nat) : (tx cs).length = cs.length := by simp [tx, Str.length]
theorem cd_len (x : Str) : (cd x).length = x.length := by simp [cd, Str.length]
theorem tx_app (a b : List Nat) : tx a ++ tx b = tx (a ++ b) := by
  show (⟨a.toArray ++ b.toArray⟩ : Str) = ⟨(a ++ b).toArray⟩
  simp
/-- a key of a dict -/
inductive KD where
  | i (n : Int) | s (cs : List Nat)
  deriving DecidableEq
def kk : KD → Key
  | .i n => .inl n
  | .s cs => .inr (tx cs)
theorem kk_inj : ∀ {a b : KD}, kk a = kk b → a = b
  | .i _, .i _, h => by cases h; rfl
  | .s a, .s b, h => by
    have := tx_inj (Sum.inr.inj h)
    rw [this]
  | .i _, .s _, h => by cases h
  | .s _, .i _, h => by cases h

inductive D where
  | non | bl (b : Bool) | int (i : Int) | str (x : List Nat)
  | tup (xs : List D) | lst (xs : List D) | fl (xs : List D)
  | dic (kvs : List (KD × D)) | dit (kvs : List (List KD × D))
  | obj (C : Addr) (fs : List (Str × D))
  | atm (v : V)
  | tab (q : Str) | clo (f : Addr) (G : Hp)

abbrev OS := Addr → Option D
def oput (O : OS) (p : Addr) (d : D) : OS := fun a => if a = p then some d else O a
def odel (O : OS) (p : Addr) : OS := fun a => if a = p then none else O a
theorem oput_same {O : OS} {p : Addr} {d : D} : oput O p d p = some d := by unfold oput; rw [if_pos rfl]
theorem oput_ne {O : OS} {p q : Addr} {d : D} (h : q ≠ p) : oput O p d q = O q := by unfold oput; rw [if_neg h]
theorem oput_oput {O : OS} {p : Addr} {d e : D} : oput (oput O p d) p e = oput O p e := by
  funext a; unfold oput; split <;> rfl
theorem odel_oput {O : OS} {p : Addr} {d : D} (h : O p = none) : odel (oput O p d) p = O := by
  funext a; unfold odel oput
  by_cases e : a = p
  · rw [if_pos e, e, h]
  · rw [if_neg e, if_neg e]

abbrev Sz (n : Nat) : Prop := n ≤ sizeLine
def Cok (cs : List Nat) : Prop := ∀ c ∈ cs, c < 0x110000
def KOk : KD → Prop
  | .i _ => True
  | .s cs => Sz cs.length ∧ Cok cs

mutual
def Is (K : PySem.W.Frag) (F : Hp) : D → V → Prop
  | .non, v => v = .non
  | .bl b, v => v = .bl b
  | .int i, v => v = .int i
  | .str x, v => v = .str (tx x) ∧ Sz x.length ∧ Cok x
  | .tup ds, v => ∃ a vs, v = .ref a ∧ F a = some (.tup vs) ∧ Iss K F ds vs ∧ Sz vs.length
  | .lst ds, v => ∃ a vs, v = .ref a ∧ F a = some (.lst vs) ∧ Iss K F ds vs ∧ Sz vs.length
  | .fl ds, v => ∃ a vs, v = .ref a ∧ SqL K F a vs ∧ Iss K F ds vs ∧ Sz vs.length
  | .dic kds, v => ∃ a o kvs, v = .ref a ∧ F a = some (.frz o (.dK kvs)) ∧ IsK K F kds kvs ∧ Sz kvs.length
  | .dit kds, v => ∃ a o kvs, v = .ref a ∧ F a = some (.frz o (.dT kvs)) ∧ IsT K F kds kvs ∧ Sz kvs.length
  | .obj C fs, v => ∃ a dx fvs, v = .ref a ∧ F a = some (.ins C dx fvs) ∧ IsF K F fs fvs
  | .atm w, v => v = w
  | .tab _, v => ∃ a ps, v = .ref a ∧ F a = some (.tbl ps)
  | .clo f G, v => v = .ref f ∧ ∀ a o, G a = some o → F a = some o
def Iss (K : PySem.W.Frag) (F : Hp) : List D → List V → Prop
  | [], vs => vs = []
  | d :: ds, vs => ∃ v r, vs = v :: r ∧ Is K F d v ∧ Iss K F ds r
def IsK (K : PySem.W.Frag) (F : Hp) : List (KD × D) → List (Key × V) → Prop
  | [], vs => vs = []
  | (k, d) :: ds, vs => ∃ v r, vs = (kk k, v) :: r ∧ Is K F d v ∧ IsK K F ds r ∧ KOk k
def IsT (K : PySem.W.Frag) (F : Hp) : List (List KD × D) → List (List Key × V) → Prop
  | [], vs => vs = []
  | (k, d) :: ds, vs => ∃ v r, vs = (k.map kk, v) :: r ∧ Is K F d v ∧ IsT K F ds r ∧ ∀ x ∈ k, KOk x
def IsF (K : PySem.W.Frag) (F : Hp) : List (Str × D) → List (Str × V) → Prop
  | [], vs => vs = []
  | (k, d) :: ds, vs => ∃ v r, vs = (k, v) :: r ∧ Is K F d v ∧ IsF K F ds r
end

def Ext (F G : Hp) : Prop := ∀ a o, F a = some o → G a = some o
theorem Ext.refl {F : Hp} : Ext F F := fun _ _ h => h
theorem Ext.trans {F G J : Hp} (a : Ext F G) (b : Ext G J) : Ext F J := fun x o h => b x o (a x o h)
theorem Ext.new {F : Hp} {p : Addr} {o : HO} (h : F p = none) : Ext F (upd F p o) := fun a u e => by
  rw [upd_ne (ne_of_none e h)]; exact e
theorem Ext.rd {F G : Hp} {a : Addr} {u : HO} (e : Ext F G) (h : Rd F a u) : Rd G a u := by
  rcases h with h | ⟨o, h⟩
  · exact .inl (e a _ h)
  · exact .inr ⟨o, e a _ h⟩
theorem Ext.sqL {K : PySem.W.Frag} {F G : Hp} {a : Addr} {vs : List V} (e : Ext F G) (h : SqL K F a vs) : SqL K G a vs := h.imp e.rd id
theorem Ext.sqT {K : PySem.W.Frag} {F G : Hp} {a : Addr} {vs : List V} (e : Ext F G) (h : SqT K F a vs) : SqT K G a vs := h.imp e.rd id

section
variable {K : PySem.W.Frag} {F G : Hp}
mutual
theorem Is.ext (e : Ext F G) : ∀ {d : D} {v : V}, Is K F d v → Is K G d v
  | .non, _, h => by simpa only [Is] using h
  | .bl _, _, h => by simpa only [Is] using h
  | .int _, _, h => by simpa only [Is] using h
  | .str _, _, h => by simpa only [Is] using h
  | .tup ds, _, h => by
    simp only [Is] at h ⊢
    obtain ⟨a, vs, h1, h2, h3, h4⟩ := h
    exact ⟨a, vs, h1, e _ _ h2, Iss.ext e h3, h4⟩
  | .lst ds, _, h => by
    simp only [Is] at h ⊢
    obtain ⟨a, vs, h1, h2, h3, h4⟩ := h
    exact ⟨a, vs, h1, e _ _ h2, Iss.ext e h3, h4⟩
  | .fl ds, _, h => by
    simp only [Is] at h ⊢
    obtain ⟨a, vs, h1, h2, h3, h4⟩ := h
    exact ⟨a, vs, h1, e.sqL h2, Iss.ext e h3, h4⟩
  | .dic kds, _, h => by
    simp only [Is] at h ⊢
    obtain ⟨a, o, kvs, h1, h2, h3, h4⟩ := h
    exact ⟨a, o, kvs, h1, e _ _ h2, IsK.ext e h3, h4⟩
  | .dit kds, _, h => by
    simp only [Is] at h ⊢
    obtain ⟨a, o, kvs, h1, h2, h3, h4⟩ := h
    exact ⟨a, o, kvs, h1, e _ _ h2, IsT.ext e h3, h4⟩
  | .obj C fs, _, h => by
    simp only [Is] at h ⊢
    obtain ⟨a, dx, fvs, h1, h2, h3⟩ := h
    exact ⟨a, dx, fvs, h1, e _ _ h2, IsF.ext e h3⟩
  | .atm _, _, h => by simpa only [Is] using h
  | .tab _, _, h => by
    simp only [Is] at h ⊢
    obtain ⟨a, ps, h1, h2⟩ := h
    exact ⟨a, ps, h1, e _ _ h2⟩
  | .clo f G, _, h => by
    simp only [Is] at h ⊢
    exact ⟨h.1, fun a o q => e _ _ (h.2 a o q)⟩
theorem Iss.ext (e : Ext F G) : ∀ {ds : List D} {vs : List V}, Iss K F ds vs → Iss K G ds vs
  | [], _, h => by simpa only [Iss] using h
  | d :: ds, _, h => by
    simp only [Iss] at h ⊢
    obtain ⟨v, r, h1, h2, h3⟩ := h
    exact ⟨v, r, h1, Is.ext e h2, Iss.ext e h3⟩
theorem IsK.ext (e : Ext F G) : ∀ {ds : List (KD × D)} {vs : List (Key × V)}, IsK K F ds vs → IsK K G ds vs
  | [], _, h => by simpa only [IsK] using h
  | (k, d) :: ds, _, h => by
    simp only [IsK] at h ⊢
    obtain ⟨v, r, h1, h2, h3, h4⟩ := h
    exact ⟨v, r, h1, Is.ext e h2, IsK.ext e h3, h4⟩
theorem IsT.ext (e : Ext F G) : ∀ {ds : List (List KD × D)} {vs : List (List Key × V)}, IsT K F ds vs → IsT K G ds vs
  | [], _, h => by simpa only [IsT] using h
  | (k, d) :: ds, _, h => by
    simp only [IsT] at h ⊢
    obtain ⟨v, r, h1, h2, h3, h4⟩ := h
    exact ⟨v, r, h1, Is.ext e h2, IsT.ext e h3, h4⟩
theorem IsF.ext (e : Ext F G) : ∀ {ds : List (Str × D)} {vs : List (Str × V)}, IsF K F ds vs → IsF K G ds vs
  | [], _, h => by simpa only [IsF] using h
  | (k, d) :: ds, _, h => by
    simp only [IsF] at h ⊢
    obtain ⟨v, r, h1, h2, h3⟩ := h
    exact ⟨v, r, h1, Is.ext e h2, IsF.ext e h3⟩
end

/-- what an object that may change holds -/
def Own (K : PySem.W.Frag) (F : Hp) : D → HO → Prop
  | .lst ds, o => ∃ vs, o = .lst vs ∧ Iss K F ds vs ∧ Sz vs.length
  | .dic kds, o => ∃ kvs, o = .dK kvs ∧ IsK K F kds kvs ∧ Sz kvs.length
  | .dit kds, o => ∃ kvs, o = .dT kvs ∧ IsT K F kds kvs ∧ Sz kvs.length
  | .obj C fs, o => ∃ dx fvs, o = .ins C dx fvs ∧ IsF K F fs fvs
  | .tab q, o => ∃ ps : Array Value, o = .tbl ps ∧ TriplesOk ps.toList ∧ ∀ (pos : Pos) (cv : Value), codeAmong pos ps.toList = some cv → ∃ c, cv = .ref c ∧ F c = some (LamX.CodeO c q)
  | _, _ => False
theorem Own.ext (e : Ext F G) {d : D} {o : HO} (h : Own K F d o) : Own K G d o := by
  cases d with
  | lst ds => obtain ⟨vs, h1, h2, h3⟩ := h; exact ⟨vs, h1, h2.ext e, h3⟩
  | dic ds => obtain ⟨vs, h1, h2, h3⟩ := h; exact ⟨vs, h1, h2.ext e, h3⟩
  | dit ds => obtain ⟨vs, h1, h2, h3⟩ := h; exact ⟨vs, h1, h2.ext e, h3⟩
  | obj C ds => obtain ⟨dx, vs, h1, h2⟩ := h; exact ⟨dx, vs, h1, h2.ext e⟩
  | tab q => obtain ⟨ps, h1, h2, h3⟩ := h; exact ⟨ps, h1, h2, fun pos cv hc => let ⟨c, e1, e2⟩ := h3 pos cv hc; ⟨c, e1, e _ _ e2⟩⟩
  | _ => exact h.elim

structure Rep (K : PySem.W.Frag) (Z F H : Hp) (O : OS) : Prop where
  sub : Ext F H
  hid : ∀ a o, Z a = some o → H a = some o ∧ F a = none ∧ O a = none
  own : ∀ a d, O a = some d → F a = none ∧ ∃ o, H a = some o ∧ Own K F d o
end

section
variable {K : PySem.W.Frag} {Z F H : Hp} {O : OS}
theorem Rep.hidNe (r : Rep K Z F H O) {p a : Addr} {o : HO} (h : H p = none) (e : Z a = some o) : a ≠ p := fun z => by
  have q := (r.hid a o e).1
  rw [z, h] at q; cases q
theorem Rep.hidNeO (r : Rep K Z F H O) {p a : Addr} {o : HO} {d : D} (h : O p = some d) (e : Z a = some o) : a ≠ p := fun z => by
  have q := (r.hid a o e).2.2
  rw [z, h] at q; cases q
theorem Rep.fresh (r : Rep K Z F H O) {p : Addr} (h : H p = none) : F p = none ∧ O p = none := by
  refine ⟨?_, ?_⟩
  · cases e : F p with
    | none => rfl
    | some o => rw [r.sub p o e] at h; cases h
  · cases e : O p with
    | none => rfl
    | some d => obtain ⟨_, o, e2, _⟩ := r.own p d e; rw [e2] at h; cases h
/-- a new object, from now on as it is -/
theorem Rep.newF (r : Rep K Z F H O) {p : Addr} {o : HO} (h : H p = none) : Rep K Z (upd F p o) (upd H p o) O ∧ Ext F (upd F p o) := by
  obtain ⟨hF, hO⟩ := r.fresh h
  have ex : Ext F (upd F p o) := Ext.new hF
  refine ⟨⟨fun a u e => ?_, fun a u e => ?_, fun a d e => ?_⟩, ex⟩
  · by_cases z : a = p
    · subst z; rw [upd_same] at e ⊢; exact e
    · rw [upd_ne z] at e ⊢; exact r.sub a u e
  · have ne := r.hidNe h e
    rw [upd_ne ne, upd_ne ne]; exact r.hid a u e
  · obtain ⟨f, u, e2, w⟩ := r.own a d e
    have z : a ≠ p := fun z => by rw [z, hO] at e; cases e
    exact ⟨by rw [upd_ne z]; exact f, u, by rw [upd_ne z]; exact e2, w.ext ex⟩
/-- a new object that may change -/
theorem Rep.newO (r : Rep K Z F H O) {p : Addr} {o : HO} {d : D} (h : H p = none) (w : Own K F d o) : Rep K Z F (upd H p o) (oput O p d) := by
  obtain ⟨hF, hO⟩ := r.fresh h
  refine ⟨fun a u e => ?_, fun a u e => ?_, fun a d' e => ?_⟩
  · rw [upd_ne (ne_of_none e hF)]; exact r.sub a u e
  · have ne := r.hidNe h e
    rw [upd_ne ne, oput_ne ne]; exact r.hid a u e
  · by_cases z : a = p
    · subst z; rw [oput_same] at e; cases e
      exact ⟨hF, o, upd_same, w⟩
    · rw [oput_ne z] at e
      obtain ⟨f, u, e2, w'⟩ := r.own a d' e
      exact ⟨f, u, by rw [upd_ne z]; exact e2, w'⟩
/-- a change -/
theorem Rep.chg (r : Rep K Z F H O) {p : Addr} {o : HO} {d d' : D} (h : O p = some d) (w : Own K F d' o) : Rep K Z F (upd H p o) (oput O p d') := by
  obtain ⟨hF, u0, e0, _⟩ := r.own p d h
  refine ⟨fun a u e => ?_, fun a u e => ?_, fun a d2 e => ?_⟩
  · rw [upd_ne (ne_of_none e hF)]; exact r.sub a u e
  · have ne := r.hidNeO h e
    rw [upd_ne ne, oput_ne ne]; exact r.hid a u e
  · by_cases z : a = p
    · subst z; rw [oput_same] at e; cases e
      exact ⟨hF, o, upd_same, w⟩
    · rw [oput_ne z] at e
      obtain ⟨f, u, e2, w'⟩ := r.own a d2 e
      exact ⟨f, u, by rw [upd_ne z]; exact e2, w'⟩
/-- from now on it stays as it is -/
theorem Rep.frz (r : Rep K Z F H O) {p : Addr} {d : D} {o : HO} (h : O p = some d) (e : H p = some o) : Rep K Z (upd F p o) H (odel O p) ∧ Ext F (upd F p o) := by
  obtain ⟨hF, u0, e0, _⟩ := r.own p d h
  have ex : Ext F (upd F p o) := Ext.new hF
  refine ⟨⟨fun a u q => ?_, fun a u q => ?_, fun a d' q => ?_⟩, ex⟩
  · by_cases z : a = p
    · subst z; rw [upd_same] at q; cases q; exact e
    · rw [upd_ne z] at q; exact r.sub a u q
  · have ne := r.hidNeO h q
    obtain ⟨q1, q2, q3⟩ := r.hid a u q
    refine ⟨q1, by rw [upd_ne ne]; exact q2, ?_⟩
    unfold odel; rw [if_neg ne]; exact q3
  · have z : a ≠ p := fun z => by rw [z] at q; unfold odel at q; rw [if_pos rfl] at q; cases q
    unfold odel at q
    rw [if_neg z] at q
    obtain ⟨f, u, e2, w⟩ := r.own a d' q
    exact ⟨by rw [upd_ne z]; exact f, u, e2, w.ext ex⟩
end

/-! ### slots -/
abbrev Env' := List (Option D)
def nth : Env' → Nat → Option D
  | [], _ => none
  | o :: _, 0 => o
  | _ :: r, n + 1 => nth r n
def put : Env' → Nat → D → Env'
  | [], _, _ => []
  | _ :: r, 0, d => some d :: r
  | o :: r, n + 1, d => o :: put r n d
def blank : Env' → List Nat → Env'
  | ρ, [] => ρ
  | ρ, v :: vs => go (blank ρ vs) v
where go : Env' → Nat → Env'
  | [], _ => []
  | _ :: r, 0 => none :: r
  | o :: r, n + 1 => o :: go r n
theorem put_length : ∀ (ρ : Env') (i : Nat) (d : D), (put ρ i d).length = ρ.length
  | [], _, _ => rfl
  | _ :: r, 0, _ => rfl
  | _ :: r, n + 1, d => congrArg Nat.succ (put_length r n d)
theorem go_length : ∀ (ρ : Env') (i : Nat), (blank.go ρ i).length = ρ.length
  | [], _ => rfl
  | _ :: r, 0 => rfl
  | _ :: r, n + 1 => congrArg Nat.succ (go_length r n)
theorem nth_put : ∀ {ρ : Env'} {i j : Nat} {d e : D}, nth (put ρ i d) j = some e → (j = i ∧ e = d) ∨ (j ≠ i ∧ nth ρ j = some e)
  | [], _, _, _, _, h => by simp [put, nth] at h
  | _ :: r, 0, 0, d, e, h => by simp [put, nth] at h; exact .inl ⟨rfl, h.symm⟩
  | _ :: r, 0, j + 1, d, e, h => .inr ⟨by simp, by simpa [put, nth] using h⟩
  | _ :: r, i + 1, 0, d, e, h => .inr ⟨by simp, by simpa [put, nth] using h⟩
  | _ :: r, i + 1, j + 1, d, e, h => by
    rcases nth_put (ρ := r) (i := i) (j := j) (by simpa [put, nth] using h) with ⟨h1, h2⟩ | ⟨h1, h2⟩
    · exact .inl ⟨by rw [h1], h2⟩
    · exact .inr ⟨by omega, by simpa [nth] using h2⟩
theorem nth_go : ∀ {ρ : Env'} {i j : Nat} {e : D}, nth (blank.go ρ i) j = some e → j ≠ i ∧ nth ρ j = some e
  | [], _, _, _, h => by simp [blank.go, nth] at h
  | _ :: r, 0, 0, e, h => by simp [blank.go, nth] at h
  | _ :: r, 0, j + 1, e, h => ⟨by simp, by simpa [blank.go, nth] using h⟩
  | _ :: r, i + 1, 0, e, h => ⟨by simp, by simpa [blank.go, nth] using h⟩
  | _ :: r, i + 1, j + 1, e, h => by
    obtain ⟨h1, h2⟩ := nth_go (ρ := r) (i := i) (j := j) (by simpa [blank.go, nth] using h)
    exact ⟨by omega, by simpa [nth] using h2⟩

structure RepE (K : PySem.W.Frag) (F : Hp) (σ : L2.St) (ρ : Env') : Prop where
  len : ρ.length = σ.length
  at_ : ∀ i d, nth ρ i = some d → ∃ x, σ[i]? = some (some x) ∧ Is K F d x
theorem RepE.ext {K : PySem.W.Frag} {F G : Hp} {σ : L2.St} {ρ : Env'} (r : RepE K F σ ρ) (e : Ext F G) : RepE K G σ ρ :=
  ⟨r.len, fun i d h => let ⟨x, h1, h2⟩ := r.at_ i d h; ⟨x, h1, h2.ext e⟩⟩
theorem nth_lt : ∀ {ρ : Env'} {i : Nat} {d : D}, nth ρ i = some d → i < ρ.length
  | [], _, _, h => by simp [nth] at h
  | _ :: r, 0, _, _ => by simp
  | _ :: r, i + 1, d, h => by have := nth_lt (ρ := r) (i := i) (by simpa [nth] using h); simpa using this
theorem RepE.put {K : PySem.W.Frag} {F : Hp} {σ : L2.St} {ρ : Env'} {i : Nat} {d : D} {x : V} (r : RepE K F σ ρ) (h : Is K F d x) : RepE K F (σ.set i (some x)) (put ρ i d) := by
  refine ⟨by rw [put_length, List.length_set]; exact r.len, fun j e hj => ?_⟩
  rcases nth_put hj with ⟨h1, h2⟩ | ⟨h1, h2⟩
  · subst h1 h2
    have hl : j < σ.length := by
      have := nth_lt hj
      rw [put_length, r.len] at this
      exact this
    exact ⟨x, by rw [List.getElem?_set_self hl], h⟩
  · obtain ⟨y, h3, h4⟩ := r.at_ j e h2
    exact ⟨y, by rw [List.getElem?_set_ne (Ne.symm h1)]; exact h3, h4⟩
theorem RepE.blank {K : PySem.W.Frag} {F : Hp} {σ : L2.St} {ρ : Env'} (r : RepE K F σ ρ) : ∀ vs : List Nat, RepE K F (wipe σ vs) (DS.blank ρ vs)
  | [] => r
  | v :: vs => by
    have q := RepE.blank r vs
    refine ⟨by unfold DS.blank wipe; rw [go_length, List.length_set]; exact q.len, fun j e hj => ?_⟩
    unfold DS.blank at hj
    obtain ⟨h1, h2⟩ := nth_go hj
    obtain ⟨y, h3, h4⟩ := q.at_ j e h2
    exact ⟨y, by unfold wipe; rw [List.getElem?_set_ne (Ne.symm h1)]; exact h3, h4⟩

/-- the ground: what stood at the entry, what is hidden -/
abbrev Bs := Hp × Hp
/-- where one stands -/
structure At (K : PySem.W.Frag) (F0 : Bs) (Z : Hp) (σ : L2.St) (H : Hp) (ρ : Env') (O : OS) (F : Hp) : Prop where
  zz : Z = F0.2
  ext : Ext F0.1 F
  env : RepE K F σ ρ
  rep : Rep K Z F H O
theorem At.step {K : PySem.W.Frag} {F0 : Bs} {F F' H H' : Hp} {σ : L2.St} {ρ : Env'} {O O' : OS} (a : At K F0 Z σ H ρ O F) (r : Rep K Z F' H' O') (e : Ext F F') : At K F0 Z σ H' ρ O' F' :=
  ⟨a.zz, a.ext.trans e, a.env.ext e, r⟩

/-! ### readings -/
abbrev DQ := D → OS → Prop
abbrev DTE := Env' → OS → DQ → Prop
abbrev DTT := Env' → OS → (Bool → OS → Prop) → Prop
abbrev DTA := Env' → OS → (List D → OS → Prop) → Prop
structure DEnds where
  nx : Env' → OS → Prop
  rt : DQ
  bk : Env' → OS → Prop := fun _ _ => False
  ct : Env' → OS → Prop := fun _ _ => False
abbrev DTS := DEnds → Env' → OS → Prop
/-- an exception -/
inductive DX where
  | pl (C : Value) | ow (C : Value) (fs : List (Str × D))
abbrev DWX := DX → Env' → OS → Prop
abbrev DXQ := DX → OS → Prop
def IsX (K : PySem.W.Frag) (F : Hp) : DX → Value → Option Addr → Prop
  | .pl C, c, d => c = C ∧ d = none
  | .ow C fs, c, d => c = C ∧ ∃ dx fvs, d = some dx ∧ F dx = some (.xd fvs) ∧ IsF K F fs fvs
def DX.cls : DX → Value
  | .pl C => C
  | .ow C _ => C
theorem IsX.cls {K : PySem.W.Frag} {F : Hp} {x : DX} {c : Value} {d : Option Addr} (h : IsX K F x c d) : c = x.cls := by
  cases x with
  | pl C => exact h.1
  | ow C fs => exact h.1
theorem IsX.ext {K : PySem.W.Frag} {F G : Hp} (e : Ext F G) {x : DX} {c : Value} {d : Option Addr} (h : IsX K F x c d) : IsX K G x c d := by
  cases x with
  | pl C => exact h
  | ow C fs => obtain ⟨h1, dx, fvs, h2, h3, h4⟩ := h; exact ⟨h1, dx, fvs, h2, e _ _ h3, h4.ext e⟩

def Conv (K : PySem.W.Frag) (Z F : Hp) (Qd : DQ) (Q : VK) : Prop := ∀ d O' F' H' v, Rep K Z F' H' O' → Ext F F' → Is K F' d v → Qd d O' → Q v H'
theorem Conv.ext {K : PySem.W.Frag} {F G : Hp} {Qd : DQ} {Q : VK} (c : Conv K Z F Qd Q) (e : Ext F G) : Conv K Z G Qd Q := fun d O' F' H' v r x i h => c d O' F' H' v r (e.trans x) i h
def ConvB (K : PySem.W.Frag) (Z F : Hp) (Qd : Bool → OS → Prop) (Q : Bool → Hp → Prop) : Prop := ∀ b O' F' H', Rep K Z F' H' O' → Ext F F' → Qd b O' → Q b H'
theorem ConvB.ext {K : PySem.W.Frag} {F G : Hp} {Qd : Bool → OS → Prop} {Q : Bool → Hp → Prop} (c : ConvB K Z F Qd Q) (e : Ext F G) : ConvB K Z G Qd Q := fun d O' F' H' r x h => c d O' F' H' r (e.trans x) h
def ConvA (K : PySem.W.Frag) (Z F : Hp) (Qd : List D → OS → Prop) (Q : List V → Hp → Prop) : Prop := ∀ ds O' F' H' vs, Rep K Z F' H' O' → Ext F F' → Iss K F' ds vs → Qd ds O' → Q vs H'
theorem ConvA.ext {K : PySem.W.Frag} {F G : Hp} {Qd : List D → OS → Prop} {Q : List V → Hp → Prop} (c : ConvA K Z F Qd Q) (e : Ext F G) : ConvA K Z G Qd Q := fun d O' F' H' v r x i h => c d O' F' H' v r (e.trans x) i h
def ConvX (K : PySem.W.Frag) (Z F : Hp) (Ed : DXQ) (E : XK) : Prop := ∀ x O' F' H' c d, Rep K Z F' H' O' → Ext F F' → IsX K F' x c d → Ed x O' → E c d H'
/-- .. of the slots -/
def ConvN (K : PySem.W.Frag) (F0 : Bs) (Z F : Hp) (n : Env' → OS → Prop) (N : L2.St → Hp → Prop) : Prop := ∀ ρ' O' σ' F' H', At K F0 Z σ' H' ρ' O' F' → Ext F F' → n ρ' O' → N σ' H'
theorem ConvN.ext {K : PySem.W.Frag} {F0 : Bs} {F G : Hp} {n : Env' → OS → Prop} {N : L2.St → Hp → Prop} (c : ConvN K F0 Z F n N) (e : Ext F G) : ConvN K F0 Z G n N := fun ρ O σ F' H' a x h => c ρ O σ F' H' a (e.trans x) h
structure ConvS (K : PySem.W.Frag) (F0 : Bs) (Z F : Hp) (Dd : DEnds) (Dh : Ends) : Prop where
  nx : ConvN K F0 Z F Dd.nx Dh.nx
  rt : Conv K Z F Dd.rt Dh.rt
  bk : ConvN K F0 Z F Dd.bk Dh.bk
  ct : ConvN K F0 Z F Dd.ct Dh.ct
theorem ConvS.ext {K : PySem.W.Frag} {F0 : Bs} {F G : Hp} {Dd : DEnds} {Dh : Ends} (c : ConvS K F0 Z F Dd Dh) (e : Ext F G) : ConvS K F0 Z G Dd Dh := ⟨c.nx.ext e, c.rt.ext e, c.bk.ext e, c.ct.ext e⟩

def liftE (K : PySem.W.Frag) (F0 : Bs) (t : DTE) : TE := fun σ H Q => ∃ Z ρ O F Qd, At K F0 Z σ H ρ O F ∧ t ρ O Qd ∧ Conv K Z F Qd Q
def liftT (K : PySem.W.Frag) (F0 : Bs) (t : DTT) : TT := fun σ H Q => ∃ Z ρ O F Qd, At K F0 Z σ H ρ O F ∧ t ρ O Qd ∧ ConvB K Z F Qd Q
def liftA (K : PySem.W.Frag) (F0 : Bs) (t : DTA) : TA := fun σ H Q => ∃ Z ρ O F Qd, At K F0 Z σ H ρ O F ∧ t ρ O Qd ∧ ConvA K Z F Qd Q
def liftS (K : PySem.W.Frag) (F0 : Bs) (t : DTS) : TS := fun Dh σ H => ∃ Z ρ O F Dd, At K F0 Z σ H ρ O F ∧ t Dd ρ O ∧ ConvS K F0 Z F Dd Dh
def liftW (K : PySem.W.Frag) (F0 : Bs) (W : DWX) : WX := fun c d σ H => ∃ Z ρ O F x, At K F0 Z σ H ρ O F ∧ IsX K F x c d ∧ W x ρ O

abbrev DE (X : Cx) (F0 : Bs) (e : Expr) (t : DTE) : Prop := PE X e (liftE X.K F0 t)
abbrev DT (X : Cx) (F0 : Bs) (e : Expr) (t : DTT) : Prop := PT X e (liftT X.K F0 t)
abbrev DW (X : Cx) (F0 : Bs) (e : Expr) (t : DTT) : Prop := PW X e (liftT X.K F0 t)
abbrev DA (X : Cx) (F0 : Bs) (es : List Expr) (t : DTA) : Prop := PA X es (liftA X.K F0 t)
abbrev DSt (X : Cx) (F0 : Bs) (s : Stmt) (t : DTS) : Prop := PS X s (liftS X.K F0 t)
abbrev DSs (X : Cx) (F0 : Bs) (s : List Stmt) (t : DTS) : Prop := PSs X s (liftS X.K F0 t)

theorem PE.imp {X : Cx} {e : Expr} {t t' : TE} (h : PE X e t) (i : ∀ σ H Q, t' σ H Q → t σ H Q) : PE X e t' := ⟨fun pins s σ H Q I w => h.run pins s σ H Q I (i σ H Q w)⟩
theorem PT.imp {X : Cx} {e : Expr} {t t' : TT} (h : PT X e t) (i : ∀ σ H Q, t' σ H Q → t σ H Q) : PT X e t' := ⟨fun pins s σ H Q I w => h.run pins s σ H Q I (i σ H Q w)⟩
theorem PW.imp {X : Cx} {e : Expr} {t t' : TT} (h : PW X e t) (i : ∀ σ H Q, t' σ H Q → t σ H Q) : PW X e t' := ⟨fun wh pins s σ H Q I w => h.run wh pins s σ H Q I (i σ H Q w)⟩
theorem PA.imp {X : Cx} {e : List Expr} {t t' : TA} (h : PA X e t) (i : ∀ σ H Q, t' σ H Q → t σ H Q) : PA X e t' := ⟨fun pos pins s σ H Q I w => h.run pos pins s σ H Q I (i σ H Q w)⟩
theorem PS.imp {X : Cx} {e : Stmt} {t t' : TS} (h : PS X e t) (i : ∀ D σ H, t' D σ H → t D σ H) : PS X e t' := ⟨fun pins s σ H D I w => h.run pins s σ H D I (i D σ H w)⟩
theorem PSs.imp {X : Cx} {e : List Stmt} {t t' : TS} (h : PSs X e t) (i : ∀ D σ H, t' D σ H → t D σ H) : PSs X e t' := ⟨fun pins s σ H D I w => h.run pins s σ H D I (i D σ H w)⟩
end DS

namespace DS
open PySem PySem.Spec PyProof.Rows L2

/-! ### views -/
def vw (O : OS) : D → D
  | .atm (.ref p) => (O p).getD (.atm (.ref p))
  | d => d
def IsV (K : PySem.W.Frag) (F H : Hp) : D → V → Prop
  | .lst ds, v => ∃ a vs, v = .ref a ∧ H a = some (.lst vs) ∧ Iss K F ds vs ∧ Sz vs.length
  | .dic kds, v => ∃ a kvs, v = .ref a ∧ Rd H a (.dK kvs) ∧ IsK K F kds kvs ∧ Sz kvs.length
  | .dit kds, v => ∃ a kvs, v = .ref a ∧ Rd H a (.dT kvs) ∧ IsT K F kds kvs ∧ Sz kvs.length
  | .obj C fs, v => ∃ a dx fvs, v = .ref a ∧ H a = some (.ins C dx fvs) ∧ IsF K F fs fvs
  | .tup ds, v => ∃ a vs, v = .ref a ∧ F a = some (.tup vs) ∧ Iss K F ds vs ∧ Sz vs.length
  | .fl ds, v => ∃ a vs, v = .ref a ∧ SqL K F a vs ∧ Iss K F ds vs ∧ Sz vs.length
  | .non, v => v = .non
  | .bl b, v => v = .bl b
  | .int i, v => v = .int i
  | .str x, v => v = .str (tx x) ∧ Sz x.length ∧ Cok x
  | .atm w, v => v = w
  | .tab _, v => ∃ a ps, v = .ref a ∧ H a = some (.tbl ps)
  | .clo f G, v => v = .ref f ∧ ∀ a o, G a = some o → F a = some o
section
variable {K : PySem.W.Frag} {F H : Hp} {O : OS}
theorem Rep.isV (r : Rep K Z F H O) : ∀ {d : D} {v : V}, Is K F d v → IsV K F H d v := fun {d v} h => by
  cases d with
  | non => simpa only [Is, IsV] using h
  | bl b => simpa only [Is, IsV] using h
  | int i => simpa only [Is, IsV] using h
  | str x => simpa only [Is, IsV] using h
  | atm w => simpa only [Is, IsV] using h
  | tab q =>
    simp only [Is] at h
    obtain ⟨a, ps, h1, h2⟩ := h
    exact ⟨a, ps, h1, r.sub _ _ h2⟩
  | clo f G => simpa only [Is, IsV] using h
  | tup ds =>
    simp only [Is] at h
    obtain ⟨a, vs, h1, h2, h3, h4⟩ := h
    exact ⟨a, vs, h1, h2, h3, h4⟩
  | lst ds =>
    simp only [Is] at h
    obtain ⟨a, vs, h1, h2, h3, h4⟩ := h
    exact ⟨a, vs, h1, r.sub _ _ h2, h3, h4⟩
  | fl ds =>
    simp only [Is] at h
    obtain ⟨a, vs, h1, h2, h3, h4⟩ := h
    exact ⟨a, vs, h1, h2, h3, h4⟩
  | dic ds =>
    simp only [Is] at h
    obtain ⟨a, o, kvs, h1, h2, h3, h4⟩ := h
    exact ⟨a, kvs, h1, .inr ⟨o, r.sub _ _ h2⟩, h3, h4⟩
  | dit ds =>
    simp only [Is] at h
    obtain ⟨a, o, kvs, h1, h2, h3, h4⟩ := h
    exact ⟨a, kvs, h1, .inr ⟨o, r.sub _ _ h2⟩, h3, h4⟩
  | obj C ds =>
    simp only [Is] at h
    obtain ⟨a, dx, kvs, h1, h2, h3⟩ := h
    exact ⟨a, dx, kvs, h1, r.sub _ _ h2, h3⟩
theorem Rep.view (r : Rep K Z F H O) {d : D} {v : V} (h : Is K F d v) : IsV K F H (vw O d) v := by
  cases d with
  | atm w =>
    cases w with
    | ref p =>
      simp only [Is] at h
      subst h
      show IsV K F H ((O p).getD (.atm (.ref p))) (.ref p)
      cases e : O p with
      | none => exact rfl
      | some c =>
        show IsV K F H c (.ref p)
        obtain ⟨_, o, e2, w⟩ := r.own p c e
        cases c with
        | lst ds => obtain ⟨vs, h1, h2, h3⟩ := w; subst h1; exact ⟨p, vs, rfl, e2, h2, h3⟩
        | dic ds => obtain ⟨vs, h1, h2, h3⟩ := w; subst h1; exact ⟨p, vs, rfl, .inl e2, h2, h3⟩
        | dit ds => obtain ⟨vs, h1, h2, h3⟩ := w; subst h1; exact ⟨p, vs, rfl, .inl e2, h2, h3⟩
        | obj C ds => obtain ⟨dx, vs, h1, h2⟩ := w; subst h1; exact ⟨p, dx, vs, rfl, e2, h2⟩
        | tab q => obtain ⟨ps, h1, _⟩ := w; subst h1; exact ⟨p, ps, rfl, e2⟩
        | _ => exact w.elim
    | _ => exact r.isV h
  | _ => exact r.isV h
/-- lists of data -/
theorem Iss.len : ∀ {ds : List D} {vs : List V}, Iss K F ds vs → ds.length = vs.length
  | [], _, h => by simp only [Iss] at h; subst h; rfl
  | d :: ds, _, h => by
    simp only [Iss] at h
    obtain ⟨v, r, rfl, _, h3⟩ := h
    exact congrArg Nat.succ (Iss.len h3)
theorem Iss.nil : Iss K F [] [] := by simp only [Iss]
theorem Iss.cons {d : D} {ds : List D} {v : V} {vs : List V} (h : Is K F d v) (t : Iss K F ds vs) : Iss K F (d :: ds) (v :: vs) := by
  simp only [Iss]; exact ⟨v, vs, rfl, h, t⟩
theorem Iss.app : ∀ {ds es : List D} {vs ws : List V}, Iss K F ds vs → Iss K F es ws → Iss K F (ds ++ es) (vs ++ ws)
  | [], _, _, _, h, g => by simp only [Iss] at h; subst h; exact g
  | d :: ds, _, _, _, h, g => by
    simp only [Iss] at h
    obtain ⟨v, r, rfl, h2, h3⟩ := h
    exact Iss.cons h2 (Iss.app h3 g)
theorem Iss.get : ∀ {ds : List D} {vs : List V} {i : Nat} {d : D}, Iss K F ds vs → ds[i]? = some d → ∃ v, vs[i]? = some v ∧ Is K F d v
  | [], _, _, _, _, e => by simp at e
  | _ :: ds, _, 0, d, h, e => by
    simp only [Iss] at h
    obtain ⟨v, r, rfl, h2, h3⟩ := h
    simp at e; subst e
    exact ⟨v, rfl, h2⟩
  | _ :: ds, _, i + 1, d, h, e => by
    simp only [Iss] at h
    obtain ⟨v, r, rfl, h2, h3⟩ := h
    obtain ⟨w, h4, h5⟩ := Iss.get (i := i) h3 (by simpa using e)
    exact ⟨w, by simpa using h4, h5⟩
theorem Iss.getV {ds : List D} {vs : List V} {i : Nat} {v : V} (h : Iss K F ds vs) (e : vs[i]? = some v) : ∃ d, ds[i]? = some d ∧ Is K F d v := by
  have hi : i < ds.length := by
    rw [h.len]
    exact (List.getElem?_eq_some_iff.mp e).1
  obtain ⟨w, h1, h2⟩ := h.get (List.getElem?_eq_getElem hi)
  rw [e] at h1
  cases h1
  exact ⟨_, List.getElem?_eq_getElem hi, h2⟩
theorem Iss.take : ∀ {ds : List D} {vs : List V} (n : Nat), Iss K F ds vs → Iss K F (ds.take n) (vs.take n)
  | _, _, 0, _ => by simp only [List.take_zero]; exact Iss.nil
  | [], _, n + 1, h => by simp only [Iss] at h; subst h; exact Iss.nil
  | d :: ds, _, n + 1, h => by
    simp only [Iss] at h
    obtain ⟨v, r, rfl, h2, h3⟩ := h
    exact Iss.cons h2 (Iss.take n h3)
theorem Iss.drop : ∀ {ds : List D} {vs : List V} (n : Nat), Iss K F ds vs → Iss K F (ds.drop n) (vs.drop n)
  | _, _, 0, h => h
  | [], _, n + 1, h => by simp only [Iss] at h; subst h; exact Iss.nil
  | d :: ds, _, n + 1, h => by
    simp only [Iss] at h
    obtain ⟨v, r, rfl, h2, h3⟩ := h
    exact Iss.drop n h3
theorem Iss.set : ∀ {ds : List D} {vs : List V} (i : Nat) {d : D} {v : V}, Iss K F ds vs → Is K F d v → Iss K F (ds.set i d) (vs.set i v)
  | [], _, _, _, _, h, _ => by simp only [Iss] at h; subst h; exact Iss.nil
  | d :: ds, _, 0, _, _, h, g => by
    simp only [Iss] at h
    obtain ⟨v, r, rfl, h2, h3⟩ := h
    exact Iss.cons g h3
  | d :: ds, _, i + 1, _, _, h, g => by
    simp only [Iss] at h
    obtain ⟨v, r, rfl, h2, h3⟩ := h
    exact Iss.cons h2 (Iss.set i h3 g)
theorem Iss.erase : ∀ {ds : List D} {vs : List V} (i : Nat), Iss K F ds vs → Iss K F (ds.eraseIdx i) (vs.eraseIdx i)
  | [], _, _, h => by simp only [Iss] at h; subst h; exact Iss.nil
  | d :: ds, _, 0, h => by
    simp only [Iss] at h
    obtain ⟨v, r, rfl, h2, h3⟩ := h
    exact h3
  | d :: ds, _, i + 1, h => by
    simp only [Iss] at h
    obtain ⟨v, r, rfl, h2, h3⟩ := h
    exact Iss.cons h2 (Iss.erase i h3)
theorem Iss.rev {ds : List D} {vs : List V} (h : Iss K F ds vs) : Iss K F ds.reverse vs.reverse := by
  induction ds generalizing vs with
  | nil => simp only [Iss] at h; subst h; exact Iss.nil
  | cons d ds ih =>
    simp only [Iss] at h
    obtain ⟨v, r, rfl, h2, h3⟩ := h
    rw [List.reverse_cons, List.reverse_cons]
    exact (ih h3).app (Iss.cons h2 Iss.nil)
end

/-! ### names and constants -/
section
variable {X : Cx} {F0 : Bs} {x : Str} {pos : Pos} {e a b c : Expr} {ta tb tc : DTE}
def dVar (i : Nat) : DTE := fun ρ O Q => match nth ρ i with | some d => Q d O | none => False
def dC (d : D) : DTE := fun _ O Q => Q d O
theorem dv (i : Nat) (hN : X.N[i]? = some x := by rfl) (hv : Vis X.env.scope x := by first | exact Or.inl rfl | exact Or.inr (Or.inl rfl) | exact Or.inr (Or.inr rfl)) (hd : (x == ("__debug__" : Str)) = false := by decide)
    (hcd : (x == ("__classdict__" : Str)) = false := by decide) : DE X F0 (.Name x pos) (dVar i) := PE.imp (pe_var hN hv hd hcd) fun σ H Q h => by
  obtain ⟨Z, ρ, O, F, Qd, at_, h, c⟩ := h
  unfold dVar at h
  cases e : nth ρ i with
  | none => rw [e] at h; exact h.elim
  | some d =>
    rw [e] at h
    obtain ⟨v, h1, h2⟩ := at_.env.at_ i d e
    exact ⟨v, h1, c d O F H v at_.rep Ext.refl h2 h⟩
theorem de_c {v : V} {d : D} (h : PE X e (tC v)) (i : ∀ F, Is X.K F d v) : DE X F0 e (dC d) := PE.imp h fun σ H Q h => by
  obtain ⟨Z, ρ, O, F, Qd, at_, h, c⟩ := h
  exact c d O F H v at_.rep Ext.refl (i F) h
theorem de_int {i : Int} {j} : DE X F0 (.Constant (.int i) j pos) (dC (.int i)) := de_c pe_int fun _ => by simp only [Is]
theorem de_bl {i : Bool} {j} : DE X F0 (.Constant (.bool i) j pos) (dC (.bl i)) := de_c pe_bl fun _ => by simp only [Is]
theorem de_non {j} : DE X F0 (.Constant .none j pos) (dC .non) := de_c pe_non fun _ => by simp only [Is]
theorem de_str {x : Str} {j} (cs : List Nat) (h : cd x = cs := by decide +kernel) (h2 : (decide (cs.length ≤ sizeLine) && cs.all (fun c => decide (c < 0x110000))) = true := by decide +kernel) : DE X F0 (.Constant (.str x) j pos) (dC (.str cs)) := de_c pe_str fun _ => by
  simp only [Bool.and_eq_true, decide_eq_true_eq, List.all_eq_true] at h2
  simp only [Is]
  exact ⟨by rw [← h, tx_cd], h2.1, h2.2⟩
theorem de_glob {v : V} {d : D} {u : Value} (hg : Gl X x) (hm : X.mg x = some u) (r : RelV v u) (i : ∀ F, Is X.K F d v) (hd : (x == ("__debug__" : Str)) = false := by decide) : DE X F0 (.Name x pos) (dC d) := de_c (pe_glob hg hm r hd) i
/-- a built-in type's name as a value -/
theorem de_ty {n : String} (hg : Gl X x) (hm : X.mg x = none) (hv : bootBuiltins x = some (.type n)) (hn : x ≠ "__name__" := by decide) (hd : (x == ("__debug__" : Str)) = false := by decide) : DE X F0 (.Name x pos) (dC (.atm (.ty n))) :=
  de_c (v := .ty n) (pe_bltn hg hm hv rfl hn hd) fun _ => by simp only [Is]
end

/-! ### operators -/
abbrev DR2 := D → D → OS → DQ → Prop
abbrev DR1 := D → OS → DQ → Prop
def dOp (r : DR2) (ta tb : DTE) : DTE := fun ρ O Q => ta ρ O fun x O1 => tb ρ O1 fun y O2 => r (vw O2 x) (vw O2 y) O2 Q
def dUn (r : DR1) (ta : DTE) : DTE := fun ρ O Q => ta ρ O fun x O1 => r (vw O1 x) O1 Q
def Lop (K : PySem.W.Frag) (r : DR2) (rH : R2) : Prop := ∀ x y O Qd Z F H vx vy Q, Rep K Z F H O → IsV K F H x vx → IsV K F H y vy → r x y O Qd → Conv K Z F Qd Q → rH vx vy H Q
def Lun (K : PySem.W.Frag) (r : DR1) (rH : V → Hp → VK → Prop) : Prop := ∀ x O Qd Z F H vx Q, Rep K Z F H O → IsV K F H x vx → r x O Qd → Conv K Z F Qd Q → rH vx H Q
section
variable {X : Cx} {F0 : Bs} {pos : Pos} {e a b c : Expr} {ta tb tc : DTE} {r : DR2} {rH : R2} {r1 : DR1} {r1H : V → Hp → VK → Prop}
theorem lift2 (l : Lop X.K r rH) {σ : L2.St} {H : Hp} {Q : VK} (h : liftE X.K F0 (dOp r ta tb) σ H Q) : tOp rH (liftE X.K F0 ta) (liftE X.K F0 tb) σ H Q := by
  obtain ⟨Z, ρ, O, F, Qd, at_, h, cv⟩ := h
  refine ⟨_, ρ, O, F, _, at_, h, fun x O1 F1 H1 vx r1 e1 i1 h1 => ?_⟩
  refine ⟨_, ρ, O1, F1, _, at_.step r1 e1, h1, fun y O2 F2 H2 vy r2 e2 i2 h2 => ?_⟩
  exact l _ _ _ _ _ _ _ _ _ _ r2 (r2.view (i1.ext e2)) (r2.view i2) h2 (cv.ext (e1.trans e2))
theorem lift1 (l : Lun X.K r1 r1H) {σ : L2.St} {H : Hp} {Q : VK} (h : liftE X.K F0 (dUn r1 ta) σ H Q) : tUn r1H (liftE X.K F0 ta) σ H Q := by
  obtain ⟨Z, ρ, O, F, Qd, at_, h, cv⟩ := h
  refine ⟨_, ρ, O, F, _, at_, h, fun x O1 F1 H1 vx r1 e1 i1 h1 => ?_⟩
  exact l _ _ _ _ _ _ _ _ r1 (r1.view i1) h1 (cv.ext e1)
theorem de_op {op : Operator} (ho : OpR X (binaryOp op) rH) (l : Lop X.K r rH) (ha : DE X F0 a ta) (hb : DE X F0 b tb) : DE X F0 (.BinOp a op b pos) (dOp r ta tb) := PE.imp (pe_op ho ha hb) fun _ _ _ => lift2 l
theorem de_un {op : UnaryOp} (ho : UnR X (unaryOp op) r1H) (l : Lun X.K r1 r1H) (ha : DE X F0 a ta) : DE X F0 (.UnaryOp op a pos) (dUn r1 ta) := PE.imp (pe_un ho ha) fun _ _ _ => lift1 l
theorem de_cmp {op : CmpOp} (ho : OpR X (compareOp op) rH) (l : Lop X.K r rH) (ha : DE X F0 a ta) (hb : DE X F0 b tb) (hm : behindInMarks op b = false) : DE X F0 (.Compare a [op] [b] pos) (dOp r ta tb) := PE.imp (pe_cmpR ho ha hb hm) fun _ _ _ => lift2 l
end

/-- numbers -/
def iAdd : DR2
  | .int i, .int j, O, Q => Q (.int (i + j)) O
  | .str x, .str y, O, Q => Sz (x.length + y.length) ∧ Q (.str (x ++ y)) O
  | .tup xs, .tup ys, O, Q => Sz (xs.length + ys.length) ∧ Q (.tup (xs ++ ys)) O
  | .lst xs, .lst ys, O, Q => Sz (xs.length + ys.length) ∧ Q (.lst (xs ++ ys)) O
  | _, _, _, _ => False
def iSub : DR2
  | .int i, .int j, O, Q => Q (.int (i - j)) O
  | _, _, _, _ => False
def iMul : DR2
  | .int i, .int j, O, Q => CMulW i j ∧ Q (.int (i * j)) O
  | _, _, _, _ => False
def iMod : DR2
  | .int i, .int j, O, Q => 0 < j ∧ Q (.int (i % j)) O
  | _, _, _, _ => False
def iDiv : DR2
  | .int i, .int j, O, Q => CDivW i j ∧ Q (.int (i / j)) O
  | _, _, _, _ => False
def iPow : DR2
  | .int i, .int j, O, Q => (0 ≤ j ∧ (Builtin.Int.intBits i : Int) * j ≤ 2 ^ 27) ∧ Q (.int (i ^ j.toNat)) O
  | _, _, _, _ => False
def cLt : DR2
  | .int i, .int j, O, Q => Q (.bl (decide (i < j))) O
  | _, _, _, _ => False
def cLe : DR2
  | .int i, .int j, O, Q => Q (.bl (decide (i ≤ j))) O
  | _, _, _, _ => False
def cGt : DR2
  | .int i, .int j, O, Q => Q (.bl (decide (j < i))) O
  | _, _, _, _ => False
def cGe : DR2
  | .int i, .int j, O, Q => Q (.bl (decide (j ≤ i))) O
  | _, _, _, _ => False
def iNeg : DR1
  | .int i, O, Q => Q (.int (-i)) O
  | _, _, _ => False
def isNonB : D → Bool
  | .non => true
  | _ => false
section
variable {K : PySem.W.Frag} {F H : Hp}
theorem IsV.int {i : Int} {v : V} (h : IsV K F H (.int i) v) : v = .int i := by simpa only [IsV] using h
theorem IsV.str {x : List Nat} {v : V} (h : IsV K F H (.str x) v) : v = .str (tx x) ∧ Sz x.length ∧ Cok x := by simpa only [IsV] using h
theorem Is.mkInt {i : Int} : Is K F (.int i) (.int i) := by simp only [Is]
theorem Is.mkBl {i : Bool} : Is K F (.bl i) (.bl i) := by simp only [Is]
theorem Is.mkNon : Is K F .non .non := by simp only [Is]
theorem Is.mkStr {x : List Nat} (z : Sz x.length) (c : Cok x) : Is K F (.str x) (.str (tx x)) := by simp only [Is, true_and]; exact ⟨z, c⟩
theorem Is.mkTup {a : Addr} {ds : List D} {vs : List V} (h : F a = some (.tup vs)) (i : Iss K F ds vs) (z : Sz vs.length) : Is K F (.tup ds) (.ref a) := by simp only [Is]; exact ⟨a, vs, rfl, h, i, z⟩
theorem Is.mkLst {a : Addr} {ds : List D} {vs : List V} (h : F a = some (.lst vs)) (i : Iss K F ds vs) (z : Sz vs.length) : Is K F (.lst ds) (.ref a) := by simp only [Is]; exact ⟨a, vs, rfl, h, i, z⟩
theorem Is.mkAtm {v : V} : Is K F (.atm v) v := by simp only [Is]
theorem Cok.app {x y : List Nat} (h : Cok x) (g : Cok y) : Cok (x ++ y) := fun c hc => (List.mem_append.mp hc).elim (h c) (g c)
/-- a new tuple, a new list that stays -/
theorem conv_tup {O : OS} {Qd : DQ} {Q : VK} {p : Addr} {ds : List D} {vs : List V} (c : Conv K Z F Qd Q) (r : Rep K Z F H O) (hp : H p = none) (i : Iss K F ds vs) (z : Sz vs.length) (q : Qd (.tup ds) O) : Q (.ref p) (upd H p (.tup vs)) := by
  obtain ⟨r2, e2⟩ := r.newF (o := .tup vs) hp
  exact c _ _ _ _ _ r2 e2 (Is.mkTup upd_same (i.ext e2) z) q
theorem conv_lst {O : OS} {Qd : DQ} {Q : VK} {p : Addr} {ds : List D} {vs : List V} (c : Conv K Z F Qd Q) (r : Rep K Z F H O) (hp : H p = none) (i : Iss K F ds vs) (z : Sz vs.length) (q : Qd (.lst ds) O) : Q (.ref p) (upd H p (.lst vs)) := by
  obtain ⟨r2, e2⟩ := r.newF (o := .lst vs) hp
  exact c _ _ _ _ _ r2 e2 (Is.mkLst upd_same (i.ext e2) z) q
end
abbrev rAddStr : R2 := fun x y H Q => ∃ i j, x = .str i ∧ y = .str j ∧ i.length + j.length ≤ sizeLine ∧ Q (.str (i ++ j)) H
theorem l_add {K : PySem.W.Frag} : Lop K iAdd (fun x y H Q => rI0 (fun i j => .int (i + j)) x y H Q ∨ (rAddStr x y H Q ∨ (rCatA K x y H Q ∨ rCat x y H Q))) := by
  intro x y O Qd Z F H vx vy Q r ix iy h c
  unfold iAdd at h
  split at h
  · exact .inl ⟨_, _, ix.int, iy.int, c _ _ _ _ _ r Ext.refl Is.mkInt h⟩
  · obtain ⟨e1, z1, c1⟩ := ix.str
    obtain ⟨e2, z2, c2⟩ := iy.str
    refine .inr (.inl ⟨_, _, e1, e2, by rw [tx_len, tx_len]; exact h.1, ?_⟩)
    rw [tx_app]
    exact c _ _ _ _ _ r Ext.refl (Is.mkStr (by rw [List.length_append]; exact h.1) (c1.app c2)) h.2
  · obtain ⟨a, vs, e1, s1, i1, z1⟩ := ix
    obtain ⟨b, ws, e2, s2, i2, z2⟩ := iy
    obtain ⟨hz, hq⟩ := h
    have l1 := i1.len
    have l2 := i2.len
    refine .inr (.inr (.inl ⟨a, b, vs, ws, e1, e2, (SqT.of (r.sub _ _ s1)), (SqT.of (r.sub _ _ s2)), by rw [← l1, ← l2]; exact hz, fun e => ?_, fun _ e => ?_, fun _ _ p hp => ?_⟩))
    · subst e
      have e3 := List.length_eq_zero_iff.mp (l1.trans rfl)
      subst e3
      exact c _ _ _ _ _ r Ext.refl (Is.mkTup s2 i2 z2) hq
    · subst e
      have e3 := List.length_eq_zero_iff.mp (l2.trans rfl)
      subst e3
      rw [List.append_nil] at hq
      exact c _ _ _ _ _ r Ext.refl (Is.mkTup s1 i1 z1) hq
    · exact conv_tup c r hp (i1.app i2) (by rw [List.length_append, ← l1, ← l2]; exact hz) hq
  · obtain ⟨a, vs, e1, s1, i1, z1⟩ := ix
    obtain ⟨b, ws, e2, s2, i2, z2⟩ := iy
    refine .inr (.inr (.inr ⟨a, b, vs, ws, e1, e2, s1, s2, by rw [← i1.len, ← i2.len]; exact h.1, fun p hp => ?_⟩))
    exact conv_lst c r hp (i1.app i2) (by rw [List.length_append, ← i1.len, ← i2.len]; exact h.1) h.2
  · exact h.elim
end DS

namespace DS
open PySem PySem.Spec PyProof.Rows L2
section
variable {K : PySem.W.Frag}
theorem l_sub : Lop K iSub (rI0 fun i j => .int (i - j)) := by
  intro x y O Qd Z F H vx vy Q r ix iy h c
  unfold iSub at h
  split at h
  · exact ⟨_, _, ix.int, iy.int, c _ _ _ _ _ r Ext.refl Is.mkInt h⟩
  · exact h.elim
theorem l_mul : Lop K iMul (rI CMulW fun i j => .int (i * j)) := by
  intro x y O Qd Z F H vx vy Q r ix iy h c
  unfold iMul at h
  split at h
  · exact ⟨_, _, ix.int, iy.int, h.1, c _ _ _ _ _ r Ext.refl Is.mkInt h.2⟩
  · exact h.elim
theorem l_mod : Lop K iMod (rI (fun _ j => 0 < j) fun i j => .int (i % j)) := by
  intro x y O Qd Z F H vx vy Q r ix iy h c
  unfold iMod at h
  split at h
  · exact ⟨_, _, ix.int, iy.int, h.1, c _ _ _ _ _ r Ext.refl Is.mkInt h.2⟩
  · exact h.elim
theorem l_div : Lop K iDiv (rI CDivW fun i j => .int (i / j)) := by
  intro x y O Qd Z F H vx vy Q r ix iy h c
  unfold iDiv at h
  split at h
  · exact ⟨_, _, ix.int, iy.int, h.1, c _ _ _ _ _ r Ext.refl Is.mkInt h.2⟩
  · exact h.elim
def CPowW (i j : Int) : Prop := 0 ≤ j ∧ (Builtin.Int.intBits i : Int) * j ≤ 2 ^ 27
theorem op_powW {X : Cx} : OpR X (binaryOp .Pow) (rI CPowW fun i j => .int (i ^ j.toNat)) := opI fun _ _ _ _ _ _ _ hc q => pow_int hc.1 hc.2 q
theorem l_pow : Lop K iPow (rI CPowW fun i j => .int (i ^ j.toNat)) := by
  intro x y O Qd Z F H vx vy Q r ix iy h c
  unfold iPow at h
  split at h
  · exact ⟨_, _, ix.int, iy.int, h.1, c _ _ _ _ _ r Ext.refl Is.mkInt h.2⟩
  · exact h.elim
theorem l_lt : Lop K cLt (rI0 fun i j => .bl (decide (i < j))) := by
  intro x y O Qd Z F H vx vy Q r ix iy h c
  unfold cLt at h
  split at h
  · exact ⟨_, _, ix.int, iy.int, c _ _ _ _ _ r Ext.refl Is.mkBl h⟩
  · exact h.elim
theorem l_le : Lop K cLe (rI0 fun i j => .bl (decide (i ≤ j))) := by
  intro x y O Qd Z F H vx vy Q r ix iy h c
  unfold cLe at h
  split at h
  · exact ⟨_, _, ix.int, iy.int, c _ _ _ _ _ r Ext.refl Is.mkBl h⟩
  · exact h.elim
theorem l_gt : Lop K cGt (rI0 fun i j => .bl (decide (j < i))) := by
  intro x y O Qd Z F H vx vy Q r ix iy h c
  unfold cGt at h
  split at h
  · exact ⟨_, _, ix.int, iy.int, c _ _ _ _ _ r Ext.refl Is.mkBl h⟩
  · exact h.elim
theorem l_ge : Lop K cGe (rI0 fun i j => .bl (decide (j ≤ i))) := by
  intro x y O Qd Z F H vx vy Q r ix iy h c
  unfold cGe at h
  split at h
  · exact ⟨_, _, ix.int, iy.int, c _ _ _ _ _ r Ext.refl Is.mkBl h⟩
  · exact h.elim
theorem l_neg : Lun K iNeg (rU fun i => .int (-i)) := by
  intro x O Qd Z F H vx Q r ix h c
  unfold iNeg at h
  split at h
  · exact ⟨_, ix.int, c _ _ _ _ _ r Ext.refl Is.mkInt h⟩
  · exact h.elim
end

/-! ### equality of data at any depth -/
mutual
def plain : D → Bool
  | .non => true
  | .bl _ => true
  | .int _ => true
  | .str _ => true
  | .tup xs => plains xs
  | .lst xs => plains xs
  | _ => false
def plains : List D → Bool
  | [] => true
  | x :: xs => plain x && plains xs
end
mutual
def dep : D → Nat
  | .tup xs => deps xs + 1
  | .lst xs => deps xs + 1
  | _ => 0
def deps : List D → Nat
  | [] => 0
  | x :: xs => max (dep x) (deps xs)
end
mutual
def deq : D → D → Bool
  | .non, .non => true
  | .bl a, .bl b => a == b
  | .bl a, .int j => (if a then 1 else 0) == j
  | .int i, .bl b => i == (if b then 1 else 0)
  | .int i, .int j => i == j
  | .str x, .str y => x == y
  | .lst xs, .lst ys => deqs xs ys
  | .tup xs, .tup ys => deqs xs ys
  | _, _ => false
def deqs : List D → List D → Bool
  | [], [] => true
  | x :: xs, y :: ys => deq x y && deqs xs ys
  | _, _ => false
end
mutual
def pd : D → PyData
  | .bl b => .bool b
  | .int i => .int i
  | .str x => .str (tx x)
  | .tup xs => .tuple (pds xs)
  | .lst xs => .list (pds xs)
  | _ => .none
def pds : List D → List PyData
  | [] => []
  | x :: xs => pd x :: pds xs
end
theorem tx_beq (x y : List Nat) : (tx x == tx y) = (x == y) := by
  by_cases h : x = y
  · subst h; simp
  · have : tx x ≠ tx y := fun e => h (tx_inj e)
    rw [beq_eq_false_iff_ne.mpr h, beq_eq_false_iff_ne.mpr this]
mutual
theorem eqv_pd : ∀ {x y : D}, plain x = true → plain y = true → PyData.eqv (pd x) (pd y) = deq x y
  | x, y, hx, hy => by
    cases x with
    | non => cases y <;> simp_all [plain, pd, PyData.eqv, deq]
    | bl b => cases y <;> simp_all [plain, pd, PyData.eqv, deq]
    | int b => cases y <;> simp_all [plain, pd, PyData.eqv, deq]
    | str b => cases y <;> simp_all [plain, pd, PyData.eqv, deq, tx_beq]
    | tup xs =>
      cases y with
      | tup ys =>
        simp only [pd, PyData.eqv, deq]
        exact eqv_pds (by simpa [plain] using hx) (by simpa [plain] using hy)
      | _ => simp_all [plain, pd, PyData.eqv, deq]
    | lst xs =>
      cases y with
      | lst ys =>
        simp only [pd, PyData.eqv, deq]
        exact eqv_pds (by simpa [plain] using hx) (by simpa [plain] using hy)
      | _ => simp_all [plain, pd, PyData.eqv, deq]
    | _ => simp_all [plain]
theorem eqv_pds : ∀ {xs ys : List D}, plains xs = true → plains ys = true → PyData.eqvAll (pds xs) (pds ys) = deqs xs ys
  | [], [], _, _ => by simp [pds, PyData.eqvAll, deqs]
  | [], y :: ys, _, _ => by simp [pds, PyData.eqvAll, deqs]
  | x :: xs, [], _, _ => by simp [pds, PyData.eqvAll, deqs]
  | x :: xs, y :: ys, hx, hy => by
    simp only [plains, Bool.and_eq_true] at hx hy
    simp only [pds, PyData.eqvAll, deqs]
    rw [eqv_pd hx.1 hy.1, eqv_pds hx.2 hy.2]
end
mutual
theorem dep_pd : ∀ {x : D}, plain x = true → PyData.depth (pd x) = dep x
  | x, hx => by
    cases x with
    | tup xs => simp only [pd, PyData.depth, dep]; rw [dep_pds (by simpa [plain] using hx)]
    | lst xs => simp only [pd, PyData.depth, dep]; rw [dep_pds (by simpa [plain] using hx)]
    | _ => simp_all [plain, pd, PyData.depth, dep]
theorem dep_pds : ∀ {xs : List D}, plains xs = true → PyData.depthAll (pds xs) = deps xs
  | [], _ => by simp [pds, PyData.depthAll, deps]
  | x :: xs, hx => by
    simp only [plains, Bool.and_eq_true] at hx
    simp only [pds, PyData.depthAll, deps]
    rw [dep_pd hx.1, dep_pds hx.2]
end
theorem strOk_tx {x : List Nat} (h : Cok x) : PyData.strOk (tx x) = true := by
  unfold PyData.strOk tx
  simp only [Array.all_eq_true]
  intro i hi
  exact decide_eq_true (h _ (List.getElem_mem _))
section
variable {K : PySem.W.Frag} {F H : Hp}
mutual
theorem can_pd : ∀ {x : D} {v : V}, plain x = true → Is K F x v → PyData.canLay0 (pd x) = true
  | x, v, hx, h => by
    cases x with
    | str b => simp only [Is] at h; simp only [pd, PyData.canLay0]; exact strOk_tx h.2.2
    | tup xs =>
      simp only [Is] at h
      obtain ⟨a, vs, _, _, h3, _⟩ := h
      simp only [pd, PyData.canLay0]; exact can_pds (by simpa [plain] using hx) h3
    | lst xs =>
      simp only [Is] at h
      obtain ⟨a, vs, _, _, h3, _⟩ := h
      simp only [pd, PyData.canLay0]; exact can_pds (by simpa [plain] using hx) h3
    | _ => simp_all [plain, pd, PyData.canLay0]
theorem can_pds : ∀ {xs : List D} {vs : List V}, plains xs = true → Iss K F xs vs → PyData.canLayAll0 (pds xs) = true
  | [], _, _, _ => by simp [pds, PyData.canLayAll0]
  | x :: xs, vs, hx, h => by
    simp only [plains, Bool.and_eq_true] at hx
    simp only [Iss] at h
    obtain ⟨v, r, _, h2, h3⟩ := h
    simp only [pds, PyData.canLayAll0, Bool.and_eq_true]
    exact ⟨can_pd hx.1 h2, can_pds hx.2 h3⟩
end
theorem can_pdV {x : D} {v : V} (hx : plain x = true) (h : IsV K F H x v) : PyData.canLay0 (pd x) = true := by
  cases x with
  | str b => simp only [pd, PyData.canLay0]; exact strOk_tx h.str.2.2
  | tup xs => obtain ⟨a, vs, _, _, h3, _⟩ := h; simp only [pd, PyData.canLay0]; exact can_pds (by simpa [plain] using hx) h3
  | lst xs => obtain ⟨a, vs, _, _, h3, _⟩ := h; simp only [pd, PyData.canLay0]; exact can_pds (by simpa [plain] using hx) h3
  | _ => simp_all [plain, pd, PyData.canLay0]
end
section
variable {X : Cx} {pins : List (Addr × Obj)} {σ : L2.St} {F H : Hp} {s : Shared}
mutual
theorem reads_pd (I : Inv X pins σ H s) (e : Ext F H) : ∀ {x : D} {v : V} {u : Value}, plain x = true → Is X.K F x v → RelV v u → ∃ as, Reads s.heap u (pd x) as
  | .non, _, _, _, h, r => by simp only [Is] at h; subst h; cases r; exact ⟨_, Reads.none⟩
  | .bl b, _, _, _, h, r => by simp only [Is] at h; subst h; cases r; exact ⟨_, Reads.bool b⟩
  | .int i, _, _, _, h, r => by simp only [Is] at h; subst h; obtain ⟨t, rfl⟩ := r; exact ⟨_, Reads.int i t⟩
  | .str i, _, _, _, h, r => by simp only [Is] at h; obtain ⟨rfl, _⟩ := h; obtain ⟨t, rfl⟩ := r; exact ⟨_, Reads.str _ t⟩
  | .tup xs, _, _, hx, h, r => by
    simp only [Is] at h
    obtain ⟨a, vs, rfl, h2, h3, _⟩ := h
    cases r
    obtain ⟨its, rv, ⟨o, ho, hc, n, hd⟩, _⟩ := I.tuple (SqT.of (e _ _ h2))
    obtain ⟨as, hr⟩ := reads_pds I e (by simpa [plain] using hx) h3 rv
    exact ⟨_, Reads.tuple ho hc hd hr⟩
  | .lst xs, _, _, hx, h, r => by
    simp only [Is] at h
    obtain ⟨a, vs, rfl, h2, h3, _⟩ := h
    cases r
    obtain ⟨its, rv, ⟨o, n, ho, hc, _, hd⟩, _⟩ := I.list (.of (e _ _ h2))
    obtain ⟨as, hr⟩ := reads_pds I e (by simpa [plain] using hx) h3 rv
    exact ⟨_, Reads.list ho hc hd hr⟩
  | .fl xs, _, _, hx, _, _ => by simp [plain] at hx
  | .dic xs, _, _, hx, _, _ => by simp [plain] at hx
  | .dit xs, _, _, hx, _, _ => by simp [plain] at hx
  | .obj _ xs, _, _, hx, _, _ => by simp [plain] at hx
  | .atm _, _, _, hx, _, _ => by simp [plain] at hx
theorem reads_pds (I : Inv X pins σ H s) (e : Ext F H) : ∀ {xs : List D} {vs : List V} {us : List Value}, plains xs = true → Iss X.K F xs vs → Vals vs us → ∃ as, ReadsAll s.heap us (pds xs) as
  | [], _, _, _, h, r => by simp only [Iss] at h; subst h; cases r; exact ⟨_, ReadsAll.nil⟩
  | x :: xs, _, _, hx, h, r => by
    simp only [plains, Bool.and_eq_true] at hx
    simp only [Iss] at h
    obtain ⟨v, t, rfl, h2, h3⟩ := h
    cases r with
    | cons r1 r2 =>
      obtain ⟨as, q1⟩ := reads_pd I e hx.1 h2 r1
      obtain ⟨bs, q2⟩ := reads_pds I e hx.2 h3 r2
      exact ⟨_, ReadsAll.cons q1 q2⟩
end
theorem reads_pdV (I : Inv X pins σ H s) (e : Ext F H) {x : D} {v : V} {u : Value} (hx : plain x = true) (h : IsV X.K F H x v) (r : RelV v u) : ∃ as, Reads s.heap u (pd x) as := by
  cases x with
  | lst xs =>
    obtain ⟨a, vs, rfl, h2, h3, _⟩ := h
    cases r
    obtain ⟨its, rv, ⟨o, n, ho, hc, _, hd⟩, _⟩ := I.list (.of h2)
    obtain ⟨as, hr⟩ := reads_pds I e (by simpa [plain] using hx) h3 rv
    exact ⟨_, Reads.list ho hc hd hr⟩
  | non => exact reads_pd I e hx (by simpa only [Is, IsV] using h) r
  | bl _ => exact reads_pd I e hx (by simpa only [Is, IsV] using h) r
  | int _ => exact reads_pd I e hx (by simpa only [Is, IsV] using h) r
  | str _ => exact reads_pd I e hx (by simpa only [Is, IsV] using h) r
  | tup _ => exact reads_pd I e hx (by simpa only [Is, IsV] using h) r
  | _ => simp [plain] at hx
end
def cEq : DR2 := fun x y O Q => (plain x = true ∧ plain y = true ∧ (dep x ≤ 150 ∨ dep y ≤ 150)) ∧ Q (.bl (deq x y)) O
def cNe : DR2 := fun x y O Q => (plain x = true ∧ plain y = true ∧ (dep x ≤ 150 ∨ dep y ≤ 150)) ∧ Q (.bl (!deq x y)) O
def rEqV (K : PySem.W.Frag) (g : Bool → Bool) : R2 := fun x y H Q => ∃ F dx dy, Ext F H ∧ IsV K F H dx x ∧ IsV K F H dy y ∧ (plain dx = true ∧ plain dy = true ∧ (dep dx ≤ 150 ∨ dep dy ≤ 150)) ∧ Q (.bl (g (deq dx dy))) H
theorem op_eqV {X : Cx} (hu : X.A.units + 200 < cLine) : OpR X (compareOp .Eq) (rEqV X.K id) := by
  intro pins s σ H x y v u Q I rx ry h
  obtain ⟨F, dx, dy, e, ix, iy, ⟨px, py, hd⟩, q⟩ := h
  obtain ⟨as, r1⟩ := reads_pdV I e px ix rx
  obtain ⟨bs, r2⟩ := reads_pdV I e py iy ry
  refine SeqAt.compareEq_reads r1 r2 (can_pdV px ix) (can_pdV py iy) ?_ ⟨.bl (deq dx dy), H, I, ?_, q⟩
  · rw [dep_pd px, dep_pd py]
    have h1 := Nat.min_le_left (dep dx) (dep dy)
    have h2 := Nat.min_le_right (dep dx) (dep dy)
    omega
  · rw [eqv_pd px py]; exact rfl
theorem op_neV {X : Cx} (hu : X.A.units + 200 < cLine) : OpR X (compareOp .NotEq) (rEqV X.K not) := by
  intro pins s σ H x y v u Q I rx ry h
  obtain ⟨F, dx, dy, e, ix, iy, ⟨px, py, hd⟩, q⟩ := h
  obtain ⟨as, r1⟩ := reads_pdV I e px ix rx
  obtain ⟨bs, r2⟩ := reads_pdV I e py iy ry
  refine SeqAt.compareNe_reads r1 r2 (can_pdV px ix) (can_pdV py iy) ?_ ⟨.bl (!deq dx dy), H, I, ?_, q⟩
  · rw [dep_pd px, dep_pd py]
    have h1 := Nat.min_le_left (dep dx) (dep dy)
    have h2 := Nat.min_le_right (dep dx) (dep dy)
    omega
  · rw [eqv_pd px py]; exact rfl
theorem l_eq {K : PySem.W.Frag} : Lop K cEq (rEqV K id) := fun x y O Qd Z F H vx vy Q r ix iy h c => ⟨F, x, y, r.sub, ix, iy, h.1, c _ _ _ _ _ r Ext.refl Is.mkBl h.2⟩
theorem l_ne {K : PySem.W.Frag} : Lop K cNe (rEqV K not) := fun x y O Qd Z F H vx vy Q r ix iy h c => ⟨F, x, y, r.sub, ix, iy, h.1, c _ _ _ _ _ r Ext.refl Is.mkBl h.2⟩
theorem un200 {k : Nat} {A : Around} (r : Room k A) : A.units + 200 < cLine := by have := r.un; omega

/-! ### is None -/
def cIsN : DR2 := fun x y O Q => match y with | .non => Q (.bl (isNonB x)) O | _ => False
def cNotN : DR2 := fun x y O Q => match y with | .non => Q (.bl (!isNonB x)) O | _ => False
theorem isV_non {K : PySem.W.Frag} {F H : Hp} {d : D} {v : V} (h : IsV K F H d v) (hn : ∀ w, d = .atm w → w ≠ .non) : decide (v = .non) = isNonB d := by
  cases d with
  | non => have : v = .non := h; subst this; rfl
  | bl b => have : v = .bl b := h; subst this; rfl
  | int b => have : v = .int b := h; subst this; rfl
  | str b => rw [h.str.1]; rfl
  | atm w => have : v = w := h; subst this; exact decide_eq_false (hn _ rfl)
  | tup b => obtain ⟨a, vs, rfl, _⟩ := h; rfl
  | lst b => obtain ⟨a, vs, rfl, _⟩ := h; rfl
  | fl b => obtain ⟨a, vs, rfl, _⟩ := h; rfl
  | dic b => obtain ⟨a, vs, rfl, _⟩ := h; rfl
  | dit b => obtain ⟨a, vs, rfl, _⟩ := h; rfl
  | obj C b => obtain ⟨a, vs, _, rfl, _⟩ := h; rfl
  | tab q => obtain ⟨a, ps, rfl, _⟩ := h; rfl
  | clo f G => obtain ⟨rfl, _⟩ := h; rfl
def atmOk : D → Bool
  | .atm .non => false
  | _ => true
theorem atmOk_ne {d : D} (h : atmOk d = true) : ∀ w, d = .atm w → w ≠ .non := fun w e z => by subst e z; cases h
def cIsN' : DR2 := fun x y O Q => atmOk x = true ∧ cIsN x y O Q
def cNotN' : DR2 := fun x y O Q => atmOk x = true ∧ cNotN x y O Q
theorem l_isN {K : PySem.W.Frag} : Lop K cIsN' (fun x y H Q => y = .non ∧ Q (.bl (decide (x = .non))) H) := fun x y O Qd Z F H vx vy Q r ix iy h c => by
  cases y with
  | non =>
    refine ⟨iy, ?_⟩
    rw [isV_non ix (atmOk_ne h.1)]
    exact c _ _ _ _ _ r Ext.refl Is.mkBl h.2
  | _ => exact h.2.elim
theorem l_notN {K : PySem.W.Frag} : Lop K cNotN' (fun x y H Q => y = .non ∧ Q (.bl (!decide (x = .non))) H) := fun x y O Qd Z F H vx vy Q r ix iy h c => by
  cases y with
  | non =>
    refine ⟨iy, ?_⟩
    rw [isV_non ix (atmOk_ne h.1)]
    exact c _ _ _ _ _ r Ext.refl Is.mkBl h.2
  | _ => exact h.2.elim
end DS

namespace DS
open PySem PySem.Spec PyProof.Rows L2

/-! ### keys and dicts -/
def keyD : D → Option KD
  | .int i => some (.i i)
  | .str cs => some (.s cs)
  | _ => none
def keysD : List D → Option (List KD)
  | [] => some []
  | d :: ds => match keyD d, keysD ds with
    | some k, some ks => some (k :: ks)
    | _, _ => none
def kget {κ : Type} [DecidableEq κ] : List (κ × D) → κ → Option D
  | [], _ => none
  | (k, d) :: r, x => if k = x then some d else kget r x
def kput {κ : Type} [DecidableEq κ] : List (κ × D) → κ → D → List (κ × D)
  | [], x, e => [(x, e)]
  | (k, d) :: r, x, e => if k = x then (k, e) :: r else (k, d) :: kput r x e
section
variable {K : PySem.W.Frag} {F H : Hp}
theorem keyD_is : ∀ {d : D} {k : KD} {v : V}, keyD d = some k → IsV K F H d v → v = kV (kk k)
  | .int i, k, v, h, g => by cases h; exact g
  | .str cs, k, v, h, g => by cases h; exact g.str.1
  | .non, _, _, h, _ => by cases h
  | .bl _, _, _, h, _ => by cases h
  | .tup _, _, _, h, _ => by cases h
  | .lst _, _, _, h, _ => by cases h
  | .fl _, _, _, h, _ => by cases h
  | .dic _, _, _, h, _ => by cases h
  | .dit _, _, _, h, _ => by cases h
  | .obj _ _, _, _, h, _ => by cases h
  | .atm _, _, _, h, _ => by cases h
theorem keyD_isF : ∀ {d : D} {k : KD} {v : V}, keyD d = some k → Is K F d v → v = kV (kk k)
  | .int i, k, v, h, g => by cases h; simp only [Is] at g; exact g
  | .str cs, k, v, h, g => by cases h; simp only [Is] at g; exact g.1
  | .non, _, _, h, _ => by cases h
  | .bl _, _, _, h, _ => by cases h
  | .tup _, _, _, h, _ => by cases h
  | .lst _, _, _, h, _ => by cases h
  | .fl _, _, _, h, _ => by cases h
  | .dic _, _, _, h, _ => by cases h
  | .dit _, _, _, h, _ => by cases h
  | .obj _ _, _, _, h, _ => by cases h
  | .atm _, _, _, h, _ => by cases h
theorem keysD_is : ∀ {ds : List D} {ks : List KD} {vs : List V}, keysD ds = some ks → Iss K F ds vs → vs = (ks.map kk).map kV
  | [], ks, vs, h, g => by cases h; simp only [Iss] at g; exact g
  | d :: ds, ks, vs, h, g => by
    simp only [Iss] at g
    obtain ⟨v, r, rfl, h2, h3⟩ := g
    unfold keysD at h
    cases e1 : keyD d with
    | none => rw [e1] at h; cases h
    | some k =>
      cases e2 : keysD ds with
      | none => rw [e1, e2] at h; cases h
      | some ks' =>
        rw [e1, e2] at h
        cases h
        rw [keyD_isF e1 h2, keysD_is e2 h3]
        rfl
theorem IsK.get : ∀ {ds : List (KD × D)} {kvs : List (Key × V)}, IsK K F ds kvs → ∀ k : KD, (kget ds k = none ∧ valV kvs (kk k) = none) ∨ ∃ d v, kget ds k = some d ∧ valV kvs (kk k) = some v ∧ Is K F d v
  | [], _, h, k => by simp only [IsK] at h; subst h; exact .inl ⟨rfl, rfl⟩
  | (k', d) :: ds, _, h, k => by
    simp only [IsK] at h
    obtain ⟨v, r, rfl, h2, h3, h4⟩ := h
    by_cases e : k' = k
    · subst e
      exact .inr ⟨d, v, by simp [kget], valV_pos rfl, h2⟩
    · have ne : ¬ kk k' = kk k := fun z => e (kk_inj z)
      rcases IsK.get h3 k with ⟨a, b⟩ | ⟨d', v', a, b, c⟩
      · exact .inl ⟨by simp [kget, e, a], by rw [valV_neg ne]; exact b⟩
      · exact .inr ⟨d', v', by simp [kget, e, a], by rw [valV_neg ne]; exact b, c⟩
theorem map_kk_inj : ∀ {a b : List KD}, a.map kk = b.map kk → a = b
  | [], [], _ => rfl
  | [], _ :: _, h => by cases h
  | _ :: _, [], h => by cases h
  | x :: a, y :: b, h => by
    simp only [List.map_cons, List.cons.injEq] at h
    rw [kk_inj h.1, map_kk_inj h.2]
theorem IsT.get : ∀ {ds : List (List KD × D)} {kvs : List (List Key × V)}, IsT K F ds kvs → ∀ k : List KD, (kget ds k = none ∧ valV kvs (k.map kk) = none) ∨ ∃ d v, kget ds k = some d ∧ valV kvs (k.map kk) = some v ∧ Is K F d v
  | [], _, h, k => by simp only [IsT] at h; subst h; exact .inl ⟨rfl, rfl⟩
  | (k', d) :: ds, _, h, k => by
    simp only [IsT] at h
    obtain ⟨v, r, rfl, h2, h3, h4⟩ := h
    by_cases e : k' = k
    · subst e
      exact .inr ⟨d, v, by simp [kget], valV_pos rfl, h2⟩
    · have ne : ¬ k'.map kk = k.map kk := fun z => e (map_kk_inj z)
      rcases IsT.get h3 k with ⟨a, b⟩ | ⟨d', v', a, b, c⟩
      · exact .inl ⟨by simp [kget, e, a], by rw [valV_neg ne]; exact b⟩
      · exact .inr ⟨d', v', by simp [kget, e, a], by rw [valV_neg ne]; exact b, c⟩
theorem putK_cons_pos {κ : Type} [DecidableEq κ] {k : κ} {v w : V} {r : List (κ × V)} (hn : valV r k = none) : putK ((k, v) :: r) k w = (k, w) :: r := by
  have hm : r.map (fun kv => if kv.1 = k then (kv.1, w) else kv) = r := by
    have : ∀ kv ∈ r, ¬ kv.1 = k := fun kv hkv e => by
      have z := valV_any k r
      rw [hn] at z
      have : (r.any fun kv => decide (kv.1 = k)) = true := List.any_eq_true.mpr ⟨kv, hkv, decide_eq_true e⟩
      rw [this] at z; cases z
    conv => rhs; rw [← List.map_id r]
    exact List.map_congr_left fun kv hkv => by rw [if_neg (this kv hkv)]; rfl
  unfold putK
  rw [if_pos (by simp), List.map_cons, if_pos rfl, hm]
theorem putK_cons_neg {κ : Type} [DecidableEq κ] {k k' : κ} {v w : V} {r : List (κ × V)} (ne : ¬ k' = k) : putK ((k', v) :: r) k w = (k', v) :: putK r k w := by
  unfold putK
  simp only [List.any_cons, decide_eq_false ne, Bool.false_or, List.map_cons, if_neg ne]
  split <;> rfl
/-- no key comes twice -/
def kOk {κ : Type} : List (κ × D) → Prop := fun ds => (ds.map (·.1)).Nodup
theorem kget_none {κ : Type} [DecidableEq κ] : ∀ {ds : List (κ × D)} {k : κ}, k ∉ ds.map (·.1) → kget ds k = none
  | [], _, _ => rfl
  | (k', d) :: ds, k, h => by
    simp only [List.map_cons, List.mem_cons, not_or] at h
    unfold kget
    rw [if_neg (fun e => h.1 e.symm)]
    exact kget_none h.2
theorem IsK.put : ∀ {ds : List (KD × D)} {kvs : List (Key × V)}, kOk ds → IsK K F ds kvs → ∀ (k : KD) {e : D} {w : V}, KOk k → Is K F e w → IsK K F (kput ds k e) (putK kvs (kk k) w)
  | [], _, _, h, k, e, w, gk, g => by
    simp only [IsK] at h; subst h
    simp only [kput, IsK]
    exact ⟨w, [], rfl, g, rfl, gk⟩
  | (k', d) :: ds, _, ok, h, k, e, w, gk, g => by
    simp only [IsK] at h
    obtain ⟨v, r, rfl, h2, h3, h4⟩ := h
    have ok' : kOk ds := (List.nodup_cons.mp ok).2
    by_cases q : k' = k
    · subst q
      have hn : valV r (kk k') = none := by
        rcases IsK.get h3 k' with ⟨_, b⟩ | ⟨d', v', a, b, c⟩
        · exact b
        · rw [kget_none (List.nodup_cons.mp ok).1] at a; cases a
      rw [putK_cons_pos hn]
      simp only [kput, if_true, IsK]
      exact ⟨w, r, rfl, g, h3, gk⟩
    · have ne : ¬ kk k' = kk k := fun z => q (kk_inj z)
      rw [putK_cons_neg ne]
      simp only [kput, if_neg q, IsK]
      exact ⟨v, _, rfl, h2, IsK.put ok' h3 k gk g, h4⟩
theorem IsT.put : ∀ {ds : List (List KD × D)} {kvs : List (List Key × V)}, kOk ds → IsT K F ds kvs → ∀ (k : List KD) {e : D} {w : V}, (∀ x ∈ k, KOk x) → Is K F e w → IsT K F (kput ds k e) (putK kvs (k.map kk) w)
  | [], _, _, h, k, e, w, gk, g => by
    simp only [IsT] at h; subst h
    simp only [kput, IsT]
    exact ⟨w, [], rfl, g, rfl, gk⟩
  | (k', d) :: ds, _, ok, h, k, e, w, gk, g => by
    simp only [IsT] at h
    obtain ⟨v, r, rfl, h2, h3, h4⟩ := h
    have ok' : kOk ds := (List.nodup_cons.mp ok).2
    by_cases q : k' = k
    · subst q
      have hn : valV r (k'.map kk) = none := by
        rcases IsT.get h3 k' with ⟨_, b⟩ | ⟨d', v', a, b, c⟩
        · exact b
        · rw [kget_none (List.nodup_cons.mp ok).1] at a; cases a
      rw [putK_cons_pos hn]
      simp only [kput, if_true, IsT]
      exact ⟨w, r, rfl, g, h3, gk⟩
    · have ne : ¬ k'.map kk = k.map kk := fun z => q (map_kk_inj z)
      rw [putK_cons_neg ne]
      simp only [kput, if_neg q, IsT]
      exact ⟨v, _, rfl, h2, IsT.put ok' h3 k gk g, h4⟩
theorem keyD_ok : ∀ {d : D} {k : KD} {v : V}, keyD d = some k → IsV K F H d v → KOk k
  | .int i, k, v, h, g => by cases h; exact trivial
  | .str cs, k, v, h, g => by cases h; exact g.str.2
  | .non, _, _, h, _ => by cases h
  | .bl _, _, _, h, _ => by cases h
  | .tup _, _, _, h, _ => by cases h
  | .lst _, _, _, h, _ => by cases h
  | .fl _, _, _, h, _ => by cases h
  | .dic _, _, _, h, _ => by cases h
  | .dit _, _, _, h, _ => by cases h
  | .obj _ _, _, _, h, _ => by cases h
  | .atm _, _, _, h, _ => by cases h
theorem keyD_okF : ∀ {d : D} {k : KD} {v : V}, keyD d = some k → Is K F d v → KOk k
  | .int i, k, v, h, g => by cases h; exact trivial
  | .str cs, k, v, h, g => by cases h; simp only [Is] at g; exact g.2
  | .non, _, _, h, _ => by cases h
  | .bl _, _, _, h, _ => by cases h
  | .tup _, _, _, h, _ => by cases h
  | .lst _, _, _, h, _ => by cases h
  | .fl _, _, _, h, _ => by cases h
  | .dic _, _, _, h, _ => by cases h
  | .dit _, _, _, h, _ => by cases h
  | .obj _ _, _, _, h, _ => by cases h
  | .atm _, _, _, h, _ => by cases h
theorem keysD_ok : ∀ {ds : List D} {ks : List KD} {vs : List V}, keysD ds = some ks → Iss K F ds vs → ∀ x ∈ ks, KOk x
  | [], ks, vs, h, g => by cases h; exact fun _ z => by cases z
  | d :: ds, ks, vs, h, g => by
    simp only [Iss] at g
    obtain ⟨v, r, rfl, h2, h3⟩ := g
    unfold keysD at h
    cases e1 : keyD d with
    | none => rw [e1] at h; cases h
    | some k =>
      cases e2 : keysD ds with
      | none => rw [e1, e2] at h; cases h
      | some ks' =>
        rw [e1, e2] at h
        cases h
        intro x hx
        rcases List.mem_cons.mp hx with e | hx
        · subst e; exact keyD_okF e1 h2
        · exact keysD_ok e2 h3 x hx
theorem IsK.len : ∀ {ds : List (KD × D)} {kvs : List (Key × V)}, IsK K F ds kvs → ds.length = kvs.length
  | [], _, h => by simp only [IsK] at h; subst h; rfl
  | (k', d) :: ds, _, h => by
    simp only [IsK] at h
    obtain ⟨v, r, rfl, h2, h3, h4⟩ := h
    exact congrArg Nat.succ (IsK.len h3)
theorem IsT.len : ∀ {ds : List (List KD × D)} {kvs : List (List Key × V)}, IsT K F ds kvs → ds.length = kvs.length
  | [], _, h => by simp only [IsT] at h; subst h; rfl
  | (k', d) :: ds, _, h => by
    simp only [IsT] at h
    obtain ⟨v, r, rfl, h2, h3, h4⟩ := h
    exact congrArg Nat.succ (IsT.len h3)
end

/-! ### in -/
def deqAny : D → List D → Bool
  | _, [] => false
  | x, y :: ys => deq y x || deqAny x ys
def cInB (g : Bool → Bool) : DR2
  | .str [c], .str zs, O, Q => Q (.bl (g (decide (c ∈ zs)))) O
  | x, .dic kds, O, Q => match keyD x with | some k => Q (.bl (g (kget kds k).isSome)) O | none => False
  | .tup xs, .dit kds, O, Q => match keysD xs with | some k => Q (.bl (g (kget kds k).isSome)) O | none => False
  | x, .lst ys, O, Q => (plain x = true ∧ plains ys = true ∧ dep x ≤ 150 ∧ deps ys ≤ 150) ∧ Q (.bl (g (deqAny x ys))) O
  | _, _, _, _ => False
def rInV (K : PySem.W.Frag) (g : Bool → Bool) : R2 := fun x y H Q => (∃ (c : Nat) (z : Str), x = .str ⟨#[c]⟩ ∧ y = .str z ∧ Q (.bl (g (decide (c ∈ z.cps.toList)))) H) ∨
  ((∃ a o, y = .ref a ∧ DGet H a x o ∧ Q (.bl (g o.isSome)) H) ∨ ∃ F d ys, Ext F H ∧ IsV K F H d x ∧ IsV K F H (.lst ys) y ∧ (plain d = true ∧ plains ys = true ∧ dep d ≤ 150 ∧ deps ys ≤ 150) ∧ Q (.bl (g (deqAny d ys))) H)
theorem any_pds {x : D} (hx : plain x = true) : ∀ {ys : List D}, plains ys = true → ((pds ys).any fun z => PyData.eqv z (pd x)) = deqAny x ys
  | [], _ => by simp [pds, deqAny]
  | y :: ys, h => by
    simp only [plains, Bool.and_eq_true] at h
    simp only [pds, List.any_cons, deqAny]
    rw [eqv_pd h.1 hx, any_pds hx h.2]
end DS

namespace DS
open PySem PySem.Spec PyProof.Rows L2

/-- x in y: a sign in a text; a key in a dict; data in a list, a tuple -/
def inB (g : Bool → Bool) : DR2 := fun x y O Q => match y with
  | .str zs => (match x with | .str [c] => Q (.bl (g (decide (c ∈ zs)))) O | _ => False)
  | .dic kds => (match keyD x with | some k => Q (.bl (g (kget kds k).isSome)) O | none => False)
  | .dit kds => (match x with | .tup xs => (match keysD xs with | some k => Q (.bl (g (kget kds k).isSome)) O | none => False) | _ => False)
  | .lst ys => (plain x = true ∧ plains ys = true ∧ dep x ≤ 150) ∧ Q (.bl (g (deqAny x ys))) O
  | .tup ys => (plain x = true ∧ plains ys = true ∧ dep x ≤ 150) ∧ Q (.bl (g (deqAny x ys))) O
  | _ => False
def rInW (K : PySem.W.Frag) (g : Bool → Bool) : R2 := fun x y H Q => (∃ (c : Nat) (z : Str), x = .str ⟨#[c]⟩ ∧ y = .str z ∧ Q (.bl (g (decide (c ∈ z.cps.toList)))) H) ∨
  ((∃ a o, y = .ref a ∧ DGet H a x o ∧ Q (.bl (g o.isSome)) H) ∨ ∃ F d e ys, Ext F H ∧ IsV K F H d x ∧ (e = .lst ys ∨ e = .tup ys) ∧ IsV K F H e y ∧ (plain d = true ∧ plains ys = true ∧ dep d ≤ 150) ∧ Q (.bl (g (deqAny d ys))) H)
section
variable {K : PySem.W.Frag} {F H : Hp}
theorem IsK.isSome {ds : List (KD × D)} {kvs : List (Key × V)} (h : IsK K F ds kvs) {k : KD} : (valV kvs (kk k)).isSome = (kget ds k).isSome := by
  rcases h.get k with ⟨p, q⟩ | ⟨d, v, p, q, _⟩
  · rw [p, q]; rfl
  · rw [p, q]; rfl
theorem IsV.tupH {xs : List D} {v : V} (h : IsV K F H (.tup xs) v) : ∃ a vs, v = .ref a ∧ F a = some (.tup vs) ∧ Iss K F xs vs ∧ Sz vs.length := h
end
/-- a tuple of keys, as a dict wants it: tracked, or of the written part -/
theorem l_in {K : PySem.W.Frag} {g : Bool → Bool} (hT : True) : Lop K (fun x y O Q => (∀ xs kds, x = .tup xs → y = .dit kds → False) ∧ inB g x y O Q) (rInW K g) := by
  intro x y O Qd Z F H vx vy Q r ix iy h c
  obtain ⟨hno, h⟩ := h
  unfold inB at h
  split at h
  · split at h
    · obtain ⟨e1, z1, c1⟩ := ix.str
      obtain ⟨e2, z2, c2⟩ := iy.str
      refine .inl ⟨_, _, e1, e2, ?_⟩
      have := c _ _ _ _ _ r Ext.refl Is.mkBl h
      exact this
    · exact h.elim
  · split at h
    · rename_i k hk
      obtain ⟨a, kvs, rfl, hd, ik, _⟩ := iy
      refine .inr (.inl ⟨a, valV kvs (kk k), rfl, .inl ⟨kvs, kk k, hd, keyD_is hk ix, rfl⟩, ?_⟩)
      rw [ik.isSome]
      exact c _ _ _ _ _ r Ext.refl Is.mkBl h
    · exact h.elim
  · split at h
    · exact (hno _ _ rfl rfl).elim
    · exact h.elim
  · obtain ⟨⟨p1, p2, p3⟩, q⟩ := h
    exact .inr (.inr ⟨F, x, _, _, r.sub, ix, .inl rfl, iy, ⟨p1, p2, p3⟩, c _ _ _ _ _ r Ext.refl Is.mkBl q⟩)
  · obtain ⟨⟨p1, p2, p3⟩, q⟩ := h
    exact .inr (.inr ⟨F, x, _, _, r.sub, ix, .inr rfl, iy, ⟨p1, p2, p3⟩, c _ _ _ _ _ r Ext.refl Is.mkBl q⟩)
  · exact h.elim
theorem op_inW {X : Cx} (hu : X.A.units + 200 < cLine) : OpR X (compareOp .In) (rInW X.K id) := by
  intro pins s σ H x y v u Q I rx ry h
  rcases h with h | h | h
  · exact op_in_sign pins s σ H x y v u Q I rx ry h
  · obtain ⟨a, o, rfl, hg, q⟩ := h
    cases ry
    exact d_in (by omega) I hg rx fun s' I' => ⟨.bl o.isSome, H, I', rfl, q⟩
  · obtain ⟨F, d, e, ys, ex, ix, he, iy, ⟨p1, p2, p3⟩, q⟩ := h
    obtain ⟨as, r1⟩ := reads_pdV I ex p1 ix rx
    have cx := can_pdV p1 ix
    have hm : X.A.units + 1 + min (PyData.depthAll (pds ys)) (PyData.depth (pd d)) < cLine := by
      rw [dep_pd p1]
      have h2 := Nat.min_le_right (PyData.depthAll (pds ys)) (dep d)
      omega
    rcases he with rfl | rfl
    · obtain ⟨bs, r2⟩ := reads_pdV I ex (x := .lst ys) (by simpa [plain] using p2) iy ry
      have cy := can_pdV (x := .lst ys) (by simpa [plain] using p2) iy
      simp only [pd] at r2 cy
      exact SeqAt.in_list_reads r2 r1 (by simpa [PyData.canLay0] using cy) cx hm ⟨.bl (deqAny d ys), H, I, by rw [any_pds p1 p2]; rfl, q⟩
    · obtain ⟨bs, r2⟩ := reads_pdV I ex (x := .tup ys) (by simpa [plain] using p2) iy ry
      have cy := can_pdV (x := .tup ys) (by simpa [plain] using p2) iy
      simp only [pd] at r2 cy
      exact SeqAt.in_tuple_reads r2 r1 (by simpa [PyData.canLay0] using cy) cx hm ⟨.bl (deqAny d ys), H, I, by rw [any_pds p1 p2]; rfl, q⟩
theorem op_notInW {X : Cx} (hu : X.A.units + 200 < cLine) : OpR X (compareOp .NotIn) (rInW X.K not) := by
  intro pins s σ H x y v u Q I rx ry h
  rcases h with h | h | h
  · exact op_notIn_sign pins s σ H x y v u Q I rx ry h
  · obtain ⟨a, o, rfl, hg, q⟩ := h
    cases ry
    exact d_notIn (by omega) I hg rx fun s' I' => ⟨.bl (!o.isSome), H, I', rfl, q⟩
  · obtain ⟨F, d, e, ys, ex, ix, he, iy, ⟨p1, p2, p3⟩, q⟩ := h
    obtain ⟨as, r1⟩ := reads_pdV I ex p1 ix rx
    have cx := can_pdV p1 ix
    have hm : X.A.units + 1 + min (PyData.depthAll (pds ys)) (PyData.depth (pd d)) < cLine := by
      rw [dep_pd p1]
      have h2 := Nat.min_le_right (PyData.depthAll (pds ys)) (dep d)
      omega
    rcases he with rfl | rfl
    · obtain ⟨bs, r2⟩ := reads_pdV I ex (x := .lst ys) (by simpa [plain] using p2) iy ry
      have cy := can_pdV (x := .lst ys) (by simpa [plain] using p2) iy
      simp only [pd] at r2 cy
      exact SeqAt.notIn_list_reads r2 r1 (by simpa [PyData.canLay0] using cy) cx hm ⟨.bl (!deqAny d ys), H, I, by rw [any_pds p1 p2]; rfl, q⟩
    · obtain ⟨bs, r2⟩ := reads_pdV I ex (x := .tup ys) (by simpa [plain] using p2) iy ry
      have cy := can_pdV (x := .tup ys) (by simpa [plain] using p2) iy
      simp only [pd] at r2 cy
      exact SeqAt.notIn_tuple_reads r2 r1 (by simpa [PyData.canLay0] using cy) cx hm ⟨.bl (!deqAny d ys), H, I, by rw [any_pds p1 p2]; rfl, q⟩

/-! ### chains, truth, conditions -/
def dChain (r r' : DR2) (ta tb tc : DTE) : DTE := fun ρ O Q => ta ρ O fun x O1 => tb ρ O1 fun y O2 => r (vw O2 x) (vw O2 y) O2 fun z O3 => match z with
  | .bl true => tc ρ O3 fun w O4 => r' (vw O4 y) (vw O4 w) O4 Q
  | .bl false => Q (.bl false) O3
  | _ => False
def asB (k : Bool → OS → Prop) : DQ := fun d O => match d with | .bl b => k b O | _ => False
def dVal (t : DTE) : DTT := fun ρ O Q => t ρ O (asB Q)
def dAnd (ta tb : DTT) : DTT := fun ρ O Q => ta ρ O fun b O1 => if b = true then tb ρ O1 Q else Q false O1
def dOr (ta tb : DTT) : DTT := fun ρ O Q => ta ρ O fun b O1 => if b = true then Q true O1 else tb ρ O1 Q
def dNot (ta : DTT) : DTT := fun ρ O Q => ta ρ O fun b O1 => Q (!b) O1
def dAndV (ta tb : DTE) : DTE := fun ρ O Q => ta ρ O (asB fun b O1 => if b = true then tb ρ O1 Q else Q (.bl false) O1)
def dOrV (ta tb : DTE) : DTE := fun ρ O Q => ta ρ O (asB fun b O1 => if b = true then Q (.bl true) O1 else tb ρ O1 Q)
def dNotV (ta : DTT) : DTE := fun ρ O Q => ta ρ O fun b O1 => Q (.bl (!b)) O1
def dIfE (c : DTT) (ta tb : DTE) : DTE := fun ρ O Q => c ρ O fun b O1 => if b = true then ta ρ O1 Q else tb ρ O1 Q
section
variable {X : Cx} {F0 : Bs} {pos : Pos} {e a b c : Expr} {rest : List Expr} {ta tb tc te : DTE} {ua ub : DTT} {r r' : DR2} {rH rH' : R2}
theorem asB_conv {K : PySem.W.Frag} {F : Hp} {k : Bool → OS → Prop} {Q : Bool → Hp → Prop} (c : ConvB K Z F k Q) : Conv K Z F (asB k) (fun v H => ∃ b, v = .bl b ∧ Q b H) := fun d O' F' H' v r e i h => by
  cases d with
  | bl b => simp only [Is] at i; exact ⟨b, i, c b O' F' H' r e h⟩
  | _ => exact h.elim
theorem de_chain {op op' : CmpOp} (ho : OpR X (compareOp op) rH) (ho' : OpR X (compareOp op') rH') (l : Lop X.K r rH) (l' : Lop X.K r' rH') (ha : DE X F0 a ta) (hb : DE X F0 b tb) (hc : DE X F0 c tc)
    (hm : lastMarks [op, op'] [b, c] = false := by with_unfolding_all rfl) : DE X F0 (.Compare a [op, op'] [b, c] pos) (dChain r r' ta tb tc) := PE.imp (pe_chain ho ho' ha hb hc hm) fun σ H Q h => by
  obtain ⟨Z, ρ, O, F, Qd, at_, h, cv⟩ := h
  refine ⟨_, ρ, O, F, _, at_, h, fun x O1 F1 H1 vx r1 e1 i1 h1 => ?_⟩
  refine ⟨_, ρ, O1, F1, _, at_.step r1 e1, h1, fun y O2 F2 H2 vy r2 e2 i2 h2 => ?_⟩
  refine l _ _ _ _ _ _ _ _ _ _ r2 (r2.view (i1.ext e2)) (r2.view i2) h2 fun z O3 F3 H3 vz r3 e3 i3 h3 => ?_
  cases z with
  | bl k =>
    simp only [Is] at i3
    refine ⟨k, i3, ?_⟩
    cases k with
    | false => exact cv _ _ _ _ _ r3 (e1.trans (e2.trans e3)) Is.mkBl h3
    | true =>
      refine ⟨_, ρ, O3, F3, _, at_.step r3 (e1.trans (e2.trans e3)), h3, fun w O4 F4 H4 vw' r4 e4 i4 h4 => ?_⟩
      exact l' _ _ _ _ _ _ _ _ _ _ r4 (r4.view (i2.ext (e3.trans e4))) (r4.view i4) h4 (cv.ext (e1.trans (e2.trans (e3.trans e4))))
  | _ => exact h3.elim
theorem dt_val (h : DE X F0 e te) (he : ∀ whole, isTrue e X.env whole = (do let v ← whole; standAt e.pos; holding [v] (truthy v)) := by intro _; rfl) : DT X F0 e (dVal te) := PT.imp (pt_val h he) fun σ H Q h => by
  obtain ⟨Z, ρ, O, F, Qd, at_, h, cv⟩ := h
  exact ⟨_, ρ, O, F, _, at_, h, asB_conv cv⟩
theorem dt_cmp {op : CmpOp} (ho : OpR X (compareOp op) rH) (l : Lop X.K r rH) (ha : DE X F0 a ta) (hb : DE X F0 b tb) (hm : behindInMarks op b = false) : DT X F0 (.Compare a [op] [b] pos) (dVal (dOp r ta tb)) := PT.imp (pt_cmpR ho ha hb hm) fun σ H Q h => by
  obtain ⟨Z, ρ, O, F, Qd, at_, h, cv⟩ := h
  exact lift2 l ⟨_, ρ, O, F, _, at_, h, asB_conv cv⟩
theorem dt_chain {op op' : CmpOp} (ho : OpR X (compareOp op) rH) (ho' : OpR X (compareOp op') rH') (l : Lop X.K r rH) (l' : Lop X.K r' rH') (ha : DE X F0 a ta) (hb : DE X F0 b tb) (hc : DE X F0 c tc)
    (hm : lastMarks [op, op'] [b, c] = false := by with_unfolding_all rfl) : DT X F0 (.Compare a [op, op'] [b, c] pos) (dVal (dChain r r' ta tb tc)) := by
  refine ⟨fun pins s σ H Q I h => ?_⟩
  obtain ⟨Z, ρ, O, F, Qd, at_, h, cv⟩ := h
  refine (pt_chain ho ho' ha hb hc hm).run pins s σ H Q I ?_
  refine ⟨_, ρ, O, F, _, at_, h, fun x O1 F1 H1 vx r1 e1 i1 h1 => ?_⟩
  refine ⟨_, ρ, O1, F1, _, at_.step r1 e1, h1, fun y O2 F2 H2 vy r2 e2 i2 h2 => ?_⟩
  refine l _ _ _ _ _ _ _ _ _ _ r2 (r2.view (i1.ext e2)) (r2.view i2) h2 fun z O3 F3 H3 vz r3 e3 i3 h3 => ?_
  cases z with
  | bl k =>
    simp only [Is] at i3
    refine ⟨k, i3, ?_⟩
    cases k with
    | false => exact ⟨false, rfl, cv _ _ _ _ r3 (e1.trans (e2.trans e3)) h3⟩
    | true =>
      refine ⟨_, ρ, O3, F3, _, at_.step r3 (e1.trans (e2.trans e3)), h3, fun w O4 F4 H4 vw' r4 e4 i4 h4 => ?_⟩
      exact l' _ _ _ _ _ _ _ _ _ _ r4 (r4.view (i2.ext (e3.trans e4))) (r4.view i4) h4 (asB_conv (cv.ext (e1.trans (e2.trans (e3.trans e4)))))
  | _ => exact h3.elim
theorem dw_and1 (ha : DT X F0 a ua) : DW X F0 (.BoolOp .And [a] pos) ua := pw_and1 ha
theorem dw_or1 (ha : DT X F0 a ua) : DW X F0 (.BoolOp .Or [a] pos) ua := pw_or1 ha
theorem dw_and (ha : DT X F0 a ua) (hb : DW X F0 (.BoolOp .And (b :: rest) pos) ub) : DW X F0 (.BoolOp .And (a :: b :: rest) pos) (dAnd ua ub) := PW.imp (pw_and ha hb) fun σ H Q h => by
  obtain ⟨Z, ρ, O, F, Qd, at_, h, cv⟩ := h
  refine ⟨_, ρ, O, F, _, at_, h, fun k O1 F1 H1 r1 e1 h1 => ?_⟩
  cases k with
  | true => exact ⟨_, ρ, O1, F1, _, at_.step r1 e1, h1, cv.ext e1⟩
  | false => exact cv _ _ _ _ r1 e1 h1
theorem dw_or (ha : DT X F0 a ua) (hb : DW X F0 (.BoolOp .Or (b :: rest) pos) ub) : DW X F0 (.BoolOp .Or (a :: b :: rest) pos) (dOr ua ub) := PW.imp (pw_or ha hb) fun σ H Q h => by
  obtain ⟨Z, ρ, O, F, Qd, at_, h, cv⟩ := h
  refine ⟨_, ρ, O, F, _, at_, h, fun k O1 F1 H1 r1 e1 h1 => ?_⟩
  cases k with
  | true => exact cv _ _ _ _ r1 e1 h1
  | false => exact ⟨_, ρ, O1, F1, _, at_.step r1 e1, h1, cv.ext e1⟩
theorem dt_w (h : DW X F0 e ua) : DT X F0 e ua := h.pt
theorem dt_not (ha : DT X F0 a ua) : DT X F0 (.UnaryOp .Not a pos) (dNot ua) := PT.imp (pt_not ha) fun σ H Q h => by
  obtain ⟨Z, ρ, O, F, Qd, at_, h, cv⟩ := h
  exact ⟨_, ρ, O, F, _, at_, h, fun k O1 F1 H1 r1 e1 h1 => cv _ _ _ _ r1 e1 h1⟩
theorem de_one {op} (h : DE X F0 a te) : DE X F0 (.BoolOp op [a] pos) te := pe_one h
theorem de_and (ha : DE X F0 a ta) (hb : DE X F0 (.BoolOp .And (b :: rest) pos) tb) : DE X F0 (.BoolOp .And (a :: b :: rest) pos) (dAndV ta tb) := PE.imp (pe_and ha hb) fun σ H Q h => by
  obtain ⟨Z, ρ, O, F, Qd, at_, h, cv⟩ := h
  refine ⟨_, ρ, O, F, _, at_, h, fun d O1 F1 H1 v r1 e1 i1 h1 => ?_⟩
  cases d with
  | bl k =>
    simp only [Is] at i1
    refine ⟨k, i1, ?_⟩
    cases k with
    | true => exact ⟨_, ρ, O1, F1, _, at_.step r1 e1, h1, cv.ext e1⟩
    | false => exact cv _ _ _ _ _ r1 e1 Is.mkBl h1
  | _ => exact h1.elim
theorem de_or (ha : DE X F0 a ta) (hb : DE X F0 (.BoolOp .Or (b :: rest) pos) tb) : DE X F0 (.BoolOp .Or (a :: b :: rest) pos) (dOrV ta tb) := PE.imp (pe_or ha hb) fun σ H Q h => by
  obtain ⟨Z, ρ, O, F, Qd, at_, h, cv⟩ := h
  refine ⟨_, ρ, O, F, _, at_, h, fun d O1 F1 H1 v r1 e1 i1 h1 => ?_⟩
  cases d with
  | bl k =>
    simp only [Is] at i1
    refine ⟨k, i1, ?_⟩
    cases k with
    | true => exact cv _ _ _ _ _ r1 e1 Is.mkBl h1
    | false => exact ⟨_, ρ, O1, F1, _, at_.step r1 e1, h1, cv.ext e1⟩
  | _ => exact h1.elim
/-- not a as a value, a a bool -/
def dNotE (ta : DTE) : DTE := fun ρ O Q => ta ρ O (asB fun b O1 => Q (.bl (!b)) O1)
theorem de_not (ha : DE X F0 a ta) : DE X F0 (.UnaryOp .Not a pos) (dNotE ta) := PE.imp (pe_not ha) fun σ H Q h => by
  obtain ⟨Z, ρ, O, F, Qd, at_, h, cv⟩ := h
  refine ⟨_, ρ, O, F, _, at_, h, fun d O1 F1 H1 v r1 e1 i1 h1 => ?_⟩
  cases d with
  | bl k =>
    simp only [Is] at i1
    exact ⟨k, i1, cv _ _ _ _ _ r1 e1 Is.mkBl h1⟩
  | _ => exact h1.elim
theorem de_if (hc : DT X F0 c ua) (ha : DE X F0 a ta) (hb : DE X F0 b tb) : DE X F0 (.IfExp c a b pos) (dIfE ua ta tb) := PE.imp (pe_ifExp hc ha hb) fun σ H Q h => by
  obtain ⟨Z, ρ, O, F, Qd, at_, h, cv⟩ := h
  refine ⟨_, ρ, O, F, _, at_, h, fun k O1 F1 H1 r1 e1 h1 => ?_⟩
  cases k with
  | true => exact ⟨_, ρ, O1, F1, _, at_.step r1 e1, h1, cv.ext e1⟩
  | false => exact ⟨_, ρ, O1, F1, _, at_.step r1 e1, h1, cv.ext e1⟩
end

/-! ### argument lists, displays -/
def aNil : DTA := fun _ O Q => Q [] O
def aCons (ta : DTE) (tr : DTA) : DTA := fun ρ O Q => ta ρ O fun x O1 => tr ρ O1 fun xs O2 => Q (x :: xs) O2
def itemsD : D → Option (List D)
  | .tup xs => some xs
  | .lst xs => some xs
  | .fl xs => some xs
  | _ => none
def aStar (ta : DTE) (tr : DTA) : DTA := fun ρ O Q => ta ρ O fun x O1 => match itemsD (vw O1 x) with
  | some xs => tr ρ O1 fun ys O2 => Q (xs ++ ys) O2
  | none => False
def dTup (t : DTA) : DTE := fun ρ O Q => t ρ O fun xs O1 => Sz xs.length ∧ Q (.tup xs) O1
def dLst (t : DTA) : DTE := fun ρ O Q => t ρ O fun xs O1 => Sz xs.length ∧ Q (.lst xs) O1
/-- a new list that may change -/
def dLstM (t : DTA) : DTE := fun ρ O Q => t ρ O fun xs O1 => Sz xs.length ∧ ∀ p, O1 p = none → Q (.atm (.ref p)) (oput O1 p (.lst xs))
section
variable {X : Cx} {F0 : Bs} {pos : Pos} {e a b c : Expr} {es : List Expr} {ta te : DTE} {t : DTA}
theorem da_nil : DA X F0 [] aNil := PA.imp pa_nil fun σ H Q h => by
  obtain ⟨Z, ρ, O, F, Qd, at_, h, cv⟩ := h
  exact cv _ _ _ _ _ at_.rep Ext.refl Iss.nil h
theorem da_cons (ha : DE X F0 e te) (hr : DA X F0 es t) (hs : starEach (e :: es) X.env = (false, eval e X.env) :: starEach es X.env := by rfl) : DA X F0 (e :: es) (aCons te t) := PA.imp (pa_cons ha hr hs) fun σ H Q h => by
  obtain ⟨Z, ρ, O, F, Qd, at_, h, cv⟩ := h
  refine ⟨_, ρ, O, F, _, at_, h, fun d O1 F1 H1 v r1 e1 i1 h1 => ?_⟩
  refine ⟨_, ρ, O1, F1, _, at_.step r1 e1, h1, fun ds O2 F2 H2 vs r2 e2 i2 h2 => ?_⟩
  exact cv _ _ _ _ _ r2 (e1.trans e2) (Iss.cons (i1.ext e2) i2) h2
theorem items_is {K : PySem.W.Frag} {F H : Hp} {O : OS} {d : D} {v : V} {xs : List D} (r : Rep K Z F H O) (h : IsV K F H d v) (e : itemsD d = some xs) : ∃ a vs, v = .ref a ∧ (SqT K H a vs ∨ SqL K H a vs) ∧ Iss K F xs vs ∧ Sz vs.length := by
  cases d with
  | tup ys => cases e; obtain ⟨a, vs, h1, h2, h3, h4⟩ := h; exact ⟨a, vs, h1, .inl ((SqT.of (r.sub _ _ h2))), h3, h4⟩
  | lst ys => cases e; obtain ⟨a, vs, h1, h2, h3, h4⟩ := h; exact ⟨a, vs, h1, .inr (.of h2), h3, h4⟩
  | fl ys => cases e; obtain ⟨a, vs, h1, h2, h3, h4⟩ := h; exact ⟨a, vs, h1, .inr (r.sub.sqL h2), h3, h4⟩
  | _ => cases e
theorem da_star {p : Pos} (ha : DE X F0 e te) (hr : DA X F0 es t) (hs : starEach (.Starred e p :: es) X.env = (true, eval e X.env) :: starEach es X.env := by rfl) : DA X F0 (.Starred e p :: es) (aStar te t) := PA.imp (StX.pa_star ha hr hs) fun σ H Q h => by
  obtain ⟨Z, ρ, O, F, Qd, at_, h, cv⟩ := h
  refine ⟨_, ρ, O, F, _, at_, h, fun d O1 F1 H1 v r1 e1 i1 h1 => ?_⟩
  cases q : itemsD (vw O1 d) with
  | none => simp only [q] at h1
  | some xs =>
    simp only [q] at h1
    obtain ⟨a, vs, e, hs, hi, hz⟩ := items_is r1 (r1.view i1) q
    refine ⟨a, vs, e, hs, _, ρ, O1, F1, _, at_.step r1 e1, h1, fun ds O2 F2 H2 ws r2 e2 i2 h2 => ?_⟩
    exact cv _ _ _ _ _ r2 (e1.trans e2) ((hi.ext e2).app i2) h2
theorem de_tup {k} (h : DA X F0 es t) : DE X F0 (.Tuple es k pos) (dTup t) := PE.imp (pe_tup h) fun σ H Q h => by
  obtain ⟨Z, ρ, O, F, Qd, at_, h, cv⟩ := h
  refine ⟨_, ρ, O, F, _, at_, h, fun ds O1 F1 H1 vs r1 e1 i1 h1 => ⟨by rw [← i1.len]; exact h1.1, fun p hp => ?_⟩⟩
  exact conv_tup (cv.ext e1) r1 hp i1 (by rw [← i1.len]; exact h1.1) h1.2
theorem de_lst (h : DA X F0 es t) : DE X F0 (.List es pos) (dLst t) := PE.imp (pe_lst h) fun σ H Q h => by
  obtain ⟨Z, ρ, O, F, Qd, at_, h, cv⟩ := h
  refine ⟨_, ρ, O, F, _, at_, h, fun ds O1 F1 H1 vs r1 e1 i1 h1 => ⟨by rw [← i1.len]; exact h1.1, fun p hp => ?_⟩⟩
  exact conv_lst (cv.ext e1) r1 hp i1 (by rw [← i1.len]; exact h1.1) h1.2
theorem conv_own {K : PySem.W.Frag} {F H : Hp} {O : OS} {Qd : DQ} {Q : VK} {p : Addr} {d : D} {o : HO} (c : Conv K Z F Qd Q) (r : Rep K Z F H O) (hp : H p = none) (w : Own K F d o) (q : Qd (.atm (.ref p)) (oput O p d)) : Q (.ref p) (upd H p o) :=
  c _ _ _ _ _ (r.newO hp w) Ext.refl Is.mkAtm q
theorem de_lstM (h : DA X F0 es t) : DE X F0 (.List es pos) (dLstM t) := PE.imp (pe_lst h) fun σ H Q h => by
  obtain ⟨Z, ρ, O, F, Qd, at_, h, cv⟩ := h
  refine ⟨_, ρ, O, F, _, at_, h, fun ds O1 F1 H1 vs r1 e1 i1 h1 => ⟨by rw [← i1.len]; exact h1.1, fun p hp => ?_⟩⟩
  exact conv_own (d := .lst ds) (cv.ext e1) r1 hp ⟨vs, rfl, i1, by rw [← i1.len]; exact h1.1⟩ (h1.2 p (r1.fresh hp).2)
end

/-! ### subscripts -/
def nthD (xs : List D) (i : Int) : Option D := atI xs i
def dIx : DR2 := fun x y O Q => match x, y with
  | .tup xs, .int i => (match atI xs i with | some d => Q d O | none => False)
  | .lst xs, .int i => (match atI xs i with | some d => Q d O | none => False)
  | .fl xs, .int i => (match atI xs i with | some d => Q d O | none => False)
  | .str xs, .int i => (match atI xs i with | some c => Q (.str [c]) O | none => False)
  | _, _ => False
theorem Iss.atI {K : PySem.W.Frag} {F : Hp} {ds : List D} {vs : List V} {i : Int} {d : D} (h : Iss K F ds vs) (e : L2.atI ds i = some d) : ∃ v, L2.atI vs i = some v ∧ Is K F d v := by
  unfold L2.atI at e ⊢
  rw [← h.len]
  cases q : ixN ds.length i with
  | none => rw [q] at e; cases e
  | some j =>
    rw [q] at e
    exact h.get e
theorem Cok.mem {xs : List Nat} {i : Int} {c : Nat} (h : Cok xs) (e : L2.atI xs i = some c) : c < 0x110000 := by
  obtain ⟨j, _, h2, _⟩ := atI_get e
  exact h c (List.mem_of_getElem? h2)
theorem one_ok {c : Nat} (h : c < 0x110000) : Cok [c] := fun x hx => by
  rw [List.mem_singleton] at hx; subst hx; exact h
theorem sz_one : Sz 1 := by decide
theorem l_ix {K : PySem.W.Frag} : Lop K dIx (rIx K) := by
  intro x y O Qd Z F H vx vy Q r ix iy h c
  unfold dIx at h
  split at h
  · obtain ⟨a, vs, rfl, hs, hi, hz⟩ := ix
    split at h
    · rename_i q
      obtain ⟨v, h1, h2⟩ := hi.atI q
      exact .inr (.inl ⟨a, vs, _, v, rfl, iy.int, (SqT.of (r.sub _ _ hs)), h1, c _ _ _ _ _ r Ext.refl h2 h⟩)
    · exact h.elim
  · obtain ⟨a, vs, rfl, hs, hi, hz⟩ := ix
    split at h
    · rename_i q
      obtain ⟨v, h1, h2⟩ := hi.atI q
      exact .inl ⟨a, vs, _, v, rfl, iy.int, .of hs, h1, c _ _ _ _ _ r Ext.refl h2 h⟩
    · exact h.elim
  · obtain ⟨a, vs, rfl, hs, hi, hz⟩ := ix
    split at h
    · rename_i q
      obtain ⟨v, h1, h2⟩ := hi.atI q
      exact .inl ⟨a, vs, _, v, rfl, iy.int, r.sub.sqL hs, h1, c _ _ _ _ _ r Ext.refl h2 h⟩
    · exact h.elim
  · obtain ⟨e1, z1, c1⟩ := ix.str
    split at h
    · rename_i cc q
      refine .inr (.inr ⟨_, _, cc, e1, iy.int, by rw [tx_len]; exact z1, by show L2.atI (cd (tx _)) _ = _; rw [cd_tx]; exact q, ?_⟩)
      exact c _ _ _ _ _ r Ext.refl (Is.mkStr (x := [cc]) sz_one (one_ok (c1.mem q))) h
    · exact h.elim
  · exact h.elim
/-- xs[a:b] -/
def dcut {α : Type} (xs : List α) (lo hi : Option Int) : List α := (xs.drop (HT.sIx xs.length 0 lo)).take (HT.sIx xs.length xs.length hi - HT.sIx xs.length 0 lo)
abbrev DTO := Env' → OS → (Option Int → OS → Prop) → Prop
def oNone : DTO := fun _ O Q => Q none O
def oSome (t : DTE) : DTO := fun ρ O Q => t ρ O fun d O1 => match d with | .int i => Q (some i) O1 | _ => False
def rSl : D → Option Int → Option Int → OS → DQ → Prop := fun x lo hi O Q => match x with
  | .str xs => Q (.str (dcut xs lo hi)) O
  | .tup xs => Q (.tup (dcut xs lo hi)) O
  | .lst xs => Q (.lst (dcut xs lo hi)) O
  | .fl xs => Q (.lst (dcut xs lo hi)) O
  | _ => False
def dSl (te : DTE) (tl th : DTO) : DTE := fun ρ O Q => te ρ O fun x O1 => tl ρ O1 fun lo O2 => th ρ O2 fun hi O3 => rSl (vw O3 x) lo hi O3 Q
def liftO (K : PySem.W.Frag) (F0 : Bs) (t : DTO) : TO := fun σ H Q => ∃ Z ρ O F Qd, At K F0 Z σ H ρ O F ∧ t ρ O Qd ∧ ∀ o O' F' H', Rep K Z F' H' O' → Ext F F' → Qd o O' → Q o H'
abbrev DO (X : Cx) (F0 : Bs) (e : Option Expr) (t : DTO) : Prop := PO X e (liftO X.K F0 t)
theorem PO.imp {X : Cx} {e : Option Expr} {t t' : TO} (h : PO X e t) (i : ∀ σ H Q, t' σ H Q → t σ H Q) : PO X e t' := ⟨fun pins s σ H Q I w => h.run pins s σ H Q I (i σ H Q w)⟩
end DS

namespace DS
open PySem PySem.Spec PyProof.Rows L2
section
variable {X : Cx} {F0 : Bs} {pos p2 : Pos} {e : Expr} {lo hi : Option Expr} {te : DTE} {tl th : DTO}
theorem do_none : DO X F0 none oNone := PO.imp po_none fun σ H Q h => by
  obtain ⟨Z, ρ, O, F, Qd, at_, h, cv⟩ := h
  exact cv _ _ _ _ at_.rep Ext.refl h
theorem do_some (h : DE X F0 e te) : DO X F0 (some e) (oSome te) := PO.imp (po_some h) fun σ H Q h => by
  obtain ⟨Z, ρ, O, F, Qd, at_, h, cv⟩ := h
  refine ⟨_, ρ, O, F, _, at_, h, fun d O1 F1 H1 v r1 e1 i1 h1 => ?_⟩
  cases d with
  | int i => simp only [Is] at i1; exact ⟨i, i1, cv _ _ _ _ r1 e1 h1⟩
  | _ => exact h1.elim
theorem dcut_len {α : Type} (xs : List α) (lo hi : Option Int) : (dcut xs lo hi).length ≤ xs.length := by
  unfold dcut; rw [List.length_take, List.length_drop]; omega
theorem Iss.cut {K : PySem.W.Frag} {F : Hp} {ds : List D} {vs : List V} {lo hi : Option Int} (h : Iss K F ds vs) : Iss K F (dcut ds lo hi) (cutV vs lo hi) := by
  unfold dcut cutV; rw [h.len]; exact (h.drop _).take _
theorem cutS_tx (xs : List Nat) (lo hi : Option Int) : cutS (tx xs) lo hi = tx (dcut xs lo hi) := by
  unfold cutS dcut
  rw [tx_len]
  show (⟨(((cd (tx xs)).drop _).take _).toArray⟩ : Str) = _
  rw [cd_tx]
  rfl
theorem Cok.cut {xs : List Nat} {lo hi : Option Int} (h : Cok xs) : Cok (dcut xs lo hi) := fun c hc => h c (List.mem_of_mem_drop (List.mem_of_mem_take hc))
def rSlAny (K : PySem.W.Frag) : V → Option Int → Option Int → Hp → VK → Prop := fun x lo hi H Q => rSlA K x lo hi H Q ∨ (rSlL K x lo hi H Q ∨ rSlS x lo hi H Q)
theorem l_sl {K : PySem.W.Frag} {d : D} {lo hi : Option Int} {O : OS} {Qd : DQ} {F H : Hp} {v : V} {Q : VK} (r : Rep K Z F H O) (i : IsV K F H d v) (h : rSl d lo hi O Qd) (c : Conv K Z F Qd Q) : rSlAny K v lo hi H Q := by
  unfold rSl at h
  split at h
  · obtain ⟨e1, z1, c1⟩ := i.str
    refine .inr (.inr ⟨_, e1, by rw [tx_len]; exact z1, ?_⟩)
    rw [cutS_tx]
    exact c _ _ _ _ _ r Ext.refl (Is.mkStr (Nat.le_trans (dcut_len _ _ _) z1) c1.cut) h
  · obtain ⟨a, vs, rfl, hs, hi', hz⟩ := i
    refine .inl ⟨a, vs, rfl, (SqT.of (r.sub _ _ hs)), fun w => ?_, fun _ p hp => ?_⟩
    · refine c _ _ _ _ _ r Ext.refl (Is.mkTup hs ?_ hz) h
      have e := hi'.cut (lo := lo) (hi := hi)
      have : cutV vs lo hi = vs := by unfold cutV; rw [w.1, w.2]; simp
      rw [this] at e
      exact e
    · exact conv_tup c r hp hi'.cut (Nat.le_trans (cutV_length _ _ _) hz) h
  · obtain ⟨a, vs, rfl, hs, hi', hz⟩ := i
    exact .inr (.inl ⟨a, vs, rfl, .of hs, fun p hp => conv_lst c r hp hi'.cut (Nat.le_trans (cutV_length _ _ _) hz) h⟩)
  · obtain ⟨a, vs, rfl, hs, hi', hz⟩ := i
    exact .inr (.inl ⟨a, vs, rfl, r.sub.sqL hs, fun p hp => conv_lst c r hp hi'.cut (Nat.le_trans (cutV_length _ _ _) hz) h⟩)
  · exact h.elim
theorem sl_any : SlR X (rSlAny X.K) := sl_tupA.or (sl_list.or sl_str)
theorem de_slice (he : DE X F0 e te) (hl : DO X F0 lo tl) (hu : DO X F0 hi th) : DE X F0 (.Subscript e (.Slice lo hi none p2) pos) (dSl te tl th) := PE.imp (pe_slice sl_any he hl hu) fun σ H Q h => by
  obtain ⟨Z, ρ, O, F, Qd, at_, h, cv⟩ := h
  refine ⟨_, ρ, O, F, _, at_, h, fun d O1 F1 H1 v r1 e1 i1 h1 => ?_⟩
  refine ⟨_, ρ, O1, F1, _, at_.step r1 e1, h1, fun lo O2 F2 H2 r2 e2 h2 => ?_⟩
  refine ⟨_, ρ, O2, F2, _, at_.step r2 (e1.trans e2), h2, fun hi O3 F3 H3 r3 e3 h3 => ?_⟩
  exact l_sl r3 (r3.view (i1.ext (e2.trans e3))) h3 (cv.ext (e1.trans (e2.trans e3)))
end
section
variable {X : Cx} {F0 : Bs} {pos : Pos} {a b : Expr} {ta tb : DTE}
theorem de_ix (ha : DE X F0 a ta) (hb : DE X F0 b tb) (hs : PlainIx b := by exact fun _ _ => rfl) : DE X F0 (.Subscript a b pos) (dOp dIx ta tb) := PE.imp (pe_ix ix_seq ha hb hs) fun _ _ _ => lift2 l_ix
end

/-! ### functions -/
abbrev DSp := List D → OS → DQ → DXQ → Prop
def liftF (K : PySem.W.Frag) (sp : DSp) : Sp := fun vs H Q E => ∃ Z ds O F Qd Ed, Rep K Z F H O ∧ Iss K F ds vs ∧ sp ds O Qd Ed ∧ Conv K Z F Qd Q ∧ ConvX K Z F Ed E
/-- f keeps the promise sp, by at most level k -/
structure DFn (P : Program) (w : World) (K : PySem.W.Frag) (mg : Str → Option Value) (base : Heap) (x : Str) (k : Nat) (sp : DSp) : Prop where
  ex : ∃ f, mg x = some (.ref f) ∧ PySem.W.keepIn K (.ref f) = true ∧ FnR P w K mg base (CX P w) k f (liftF K sp)
theorem DFn.mono {P : Program} {w : World} {K : PySem.W.Frag} {mg : Str → Option Value} {base : Heap} {x : Str} {j k : Nat} {sp : DSp} (F : DFn P w K mg base x j sp) (h : j ≤ k) : DFn P w K mg base x k sp := by
  obtain ⟨f, h1, h2, h3⟩ := F.ex
  exact ⟨f, h1, h2, h3.mono h⟩
theorem liftF_imp {K : PySem.W.Frag} {sp sp' : DSp} (i : ∀ ds O Q E, sp' ds O Q E → sp ds O Q E) : ∀ vs H Q E, liftF K sp' vs H Q E → liftF K sp vs H Q E := fun vs H Q E ⟨Z, ds, O, F, Qd, Ed, r, is, h, c, cx⟩ => ⟨Z, ds, O, F, Qd, Ed, r, is, i _ _ _ _ h, c, cx⟩
theorem DFn.imp {P : Program} {w : World} {K : PySem.W.Frag} {mg : Str → Option Value} {base : Heap} {x : Str} {k : Nat} {sp sp' : DSp} (F : DFn P w K mg base x k sp) (i : ∀ ds O Q E, sp' ds O Q E → sp ds O Q E) : DFn P w K mg base x k sp' := by
  obtain ⟨f, h1, h2, h3⟩ := F.ex
  exact ⟨f, h1, h2, h3.imp (liftF_imp i)⟩
/-- what is raised by a callee is as W wants it -/
def PassD (X : Cx) (F0 : Bs) (W : DWX) : Prop := ∀ σ, PassesAt (CX X.prog X.w) X σ (WE (liftW X.K F0 W) σ)
theorem passD {X : Cx} {F0 : Bs} {W : DWX} (tk : Takes X (liftW X.K F0 W)) : PassD X F0 W := fun σ => passAt tk σ
abbrev W0 : DWX := fun _ _ _ => False
theorem passD0 {X : Cx} {F0 : Bs} : PassD X F0 W0 := fun σ pins H s e s' I c => by
  obtain ⟨a, B, H', cls, d, _, _, _, _, _, _, _, _, ρ, O, F, x, _, _, h⟩ := c
  exact h.elim
def dCall (sp : DSp) (W : DWX) (t : DTA) : DTE := fun ρ O Q => t ρ O fun ds O1 => sp ds O1 Q fun x O2 => W x ρ O2
section
variable {X : Cx} {F0 : Bs} {CX' : CXT} {k : Nat} {f : Addr} {sp : Sp} {x : Str} {p pos : Pos} {e : Expr} {es : List Expr} {t : TA} {td : DTA} {W : DWX} {spd : DSp} {E : L2.St → XK}
theorem run_fnRS {pins : List (Addr × Obj)} {σ : L2.St} {H : Hp} {s : Shared} {Q : VK} {us : List Value} {vs : List V} {E : XK} (F : FnR X.prog X.w X.K X.mg X.base CX' k f sp) (hr : Room k X.A) (hx : PassesAt CX' X σ E) (I : Inv X pins σ H s) (r : Vals vs us) (h : sp vs H Q E) :
    wpAny (model X.prog X.w) X.A (call (.ref f) us) (EP X pins σ Q) X.xe s := by
  refine wpAny_call (codeAny_mono (F X.A X.stack s H us vs Q E hr I.env0 r h) fun r s' hq => ?_)
  cases r with
  | error e => exact hx pins H s e s' I hq
  | ok fl =>
    cases fl with
    | ret u => exact I.after hq
    | next => exact False.elim hq
    | brk => exact False.elim hq
    | cont => exact False.elim hq
theorem pe_callRS (F : FnR X.prog X.w X.K X.mg X.base CX' k f sp) (hr : Room k X.A) (hk : PySem.W.keepIn X.K (.ref f) = true) (hg : Gl X x) (hm : X.mg x = some (.ref f)) (hx : ∀ σ, PassesAt CX' X σ (E σ)) (ha : PA X (e :: es) t) (hd : (x == ("__debug__" : Str)) = false := by decide)
    (he : starEach (e :: es) X.env = (false, eval e X.env) :: starEach es X.env := by rfl) (hst : (backTo pos (starEach es X.env)).any (·.1) = false := by rfl) :
    PE X (.Call (.Name x p) (e :: es) [] pos) (fun σ H Q => t σ H fun vs H1 => sp vs H1 Q (E σ)) := by
  refine ⟨fun pins s σ H Q I h => ?_⟩
  refine wpAny_Call_Name_kw (ld_glob I hg hm ?_ hd)
  refine PySem.W.callWith_K (h₀ := X.base) I.ok.mod.kin hk (thn (ha.run pos pins s σ H _ I h) fun us s1 ⟨vs, H1, I1, r, q⟩ => ⟨I1.kIn, ?_⟩) he hst
  exact run_fnRS F hr (hx σ) I1 r q
theorem pe_callRS0 (F : FnR X.prog X.w X.K X.mg X.base CX' k f sp) (hr : Room k X.A) (hk : PySem.W.keepIn X.K (.ref f) = true) (hg : Gl X x) (hm : X.mg x = some (.ref f)) (hx : ∀ σ, PassesAt CX' X σ (E σ)) (hd : (x == ("__debug__" : Str)) = false := by decide) :
    PE X (.Call (.Name x p) [] [] pos) (fun σ H Q => sp [] H Q (E σ)) := by
  refine ⟨fun pins s σ H Q I h => ?_⟩
  refine wpAny_Call_Name_kw (ld_glob I hg hm ?_ hd)
  exact PySem.W.callWith_K0 I.kIn hk (run_fnRS (us := []) F hr (hx σ) I .nil h)
theorem pe_callRSs (F : FnR X.prog X.w X.K X.mg X.base CX' k f sp) (hr : Room k X.A) (hk : PySem.W.keepIn X.K (.ref f) = true) (hg : Gl X x) (hm : X.mg x = some (.ref f)) (hx : ∀ σ, PassesAt CX' X σ (E σ)) (ha : PA X (e :: es) t) (hd : (x == ("__debug__" : Str)) = false := by decide)
    (he : starEach (e :: es) X.env = (false, eval e X.env) :: starEach es X.env := by rfl) (hst : (backTo pos (starEach es X.env)).any (·.1) = true := by rfl) :
    PE X (.Call (.Name x p) (e :: es) [] pos) (fun σ H Q => t σ H fun vs H1 => sp vs H1 Q (E σ)) := by
  refine ⟨fun pins s σ H Q I h => ?_⟩
  refine wpAny_Call_Name_kw (ld_glob I hg hm ?_ hd)
  refine PySem.W.callWith_S2 (h₀ := X.base) I.ok.mod.kin hk (thn (ha.run pos pins s σ H _ I h) fun us s1 ⟨vs, H1, I1, r, q⟩ => ⟨I1.kIn, ?_⟩) he hst
  exact run_fnRS F hr (hx σ) I1 r q
theorem lift_call {σ : L2.St} {H : Hp} {Q : VK} {ta : TA} (h : liftE X.K F0 (dCall spd W td) σ H Q) (hta : liftA X.K F0 td σ H (fun vs H1 => liftF X.K spd vs H1 Q (WE (liftW X.K F0 W) σ)) → ta σ H (fun vs H1 => liftF X.K spd vs H1 Q (WE (liftW X.K F0 W) σ))) :
    ta σ H (fun vs H1 => liftF X.K spd vs H1 Q (WE (liftW X.K F0 W) σ)) := by
  obtain ⟨Z, ρ, O, F, Qd, at_, h, cv⟩ := h
  refine hta ⟨_, ρ, O, F, _, at_, h, fun ds O1 F1 H1 vs r1 e1 i1 h1 => ?_⟩
  refine ⟨_, ds, O1, F1, _, _, r1, i1, h1, cv.ext e1, fun x O' F' H' c d r' e' ix hx => ?_⟩
  exact ⟨_, ρ, O', F', x, at_.step r' (e1.trans e'), ix, hx⟩
theorem de_call (F : DFn X.prog X.w X.K X.mg X.base x k spd) (hr : Room k X.A) (hp : PassD X F0 W) (hg : Gl X x) (ha : DA X F0 (e :: es) td) (hd : (x == ("__debug__" : Str)) = false := by decide)
    (he : starEach (e :: es) X.env = (false, eval e X.env) :: starEach es X.env := by rfl) (hst : (backTo pos (starEach es X.env)).any (·.1) = false := by rfl) :
    DE X F0 (.Call (.Name x p) (e :: es) [] pos) (dCall spd W td) := by
  obtain ⟨f, hm, hk, FR⟩ := F.ex
  exact PE.imp (pe_callRS FR hr hk hg hm hp ha hd he hst) fun σ H Q h => lift_call (ta := liftA X.K F0 td) h id
theorem de_callS (F : DFn X.prog X.w X.K X.mg X.base x k spd) (hr : Room k X.A) (hp : PassD X F0 W) (hg : Gl X x) (ha : DA X F0 (e :: es) td) (hd : (x == ("__debug__" : Str)) = false := by decide)
    (he : starEach (e :: es) X.env = (false, eval e X.env) :: starEach es X.env := by rfl) (hst : (backTo pos (starEach es X.env)).any (·.1) = true := by rfl) :
    DE X F0 (.Call (.Name x p) (e :: es) [] pos) (dCall spd W td) := by
  obtain ⟨f, hm, hk, FR⟩ := F.ex
  exact PE.imp (pe_callRSs FR hr hk hg hm hp ha hd he hst) fun σ H Q h => lift_call (ta := liftA X.K F0 td) h id
theorem de_call0 (F : DFn X.prog X.w X.K X.mg X.base x k spd) (hr : Room k X.A) (hp : PassD X F0 W) (hg : Gl X x) (hd : (x == ("__debug__" : Str)) = false := by decide) :
    DE X F0 (.Call (.Name x p) [] [] pos) (dCall spd W aNil) := by
  obtain ⟨f, hm, hk, FR⟩ := F.ex
  exact PE.imp (pe_callRS0 FR hr hk hg hm hp hd) fun σ H Q h => lift_call (ta := fun σ H Q => Q [] H) h fun q => by
    obtain ⟨Z, ρ, O, F, Qd, at_, h, cv⟩ := q
    exact cv _ _ _ _ _ at_.rep Ext.refl Iss.nil h
end

/-! ### a def -/
def startD (N : List Str) (ds : List D) : Env' := ds.map some ++ List.replicate (N.length - ds.length) none
theorem nth_app : ∀ {ds : List D} {r : Env'} {i : Nat} {d : D}, nth (ds.map some ++ r) i = some d → (∃ e, ds[i]? = some e ∧ e = d) ∨ (ds.length ≤ i ∧ nth r (i - ds.length) = some d)
  | [], r, i, d, h => .inr ⟨Nat.zero_le _, by simpa using h⟩
  | x :: ds, r, 0, d, h => by simp [nth] at h; exact .inl ⟨x, rfl, h⟩
  | x :: ds, r, i + 1, d, h => by
    rcases nth_app (ds := ds) (r := r) (i := i) (by simpa [nth] using h) with ⟨e, h1, h2⟩ | ⟨h1, h2⟩
    · exact .inl ⟨e, by simpa using h1, h2⟩
    · exact .inr ⟨by simp; exact h1, by simpa using h2⟩
theorem nth_repl : ∀ {n i : Nat} {d : D}, nth (List.replicate n none) i = some d → False
  | 0, _, _, h => by simp [nth] at h
  | n + 1, 0, _, h => by simp [List.replicate_succ, nth] at h
  | n + 1, i + 1, _, h => nth_repl (n := n) (i := i) (by simpa [List.replicate_succ, nth] using h)
theorem repE_start {K : PySem.W.Frag} {F : Hp} {N : List Str} {ds : List D} {vs : List V} (h : Iss K F ds vs) : RepE K F (L2.start N vs) (startD N ds) := by
  refine ⟨?_, fun i d hd => ?_⟩
  · unfold startD L2.start; simp [h.len]
  · rcases nth_app hd with ⟨e, h1, h2⟩ | ⟨h1, h2⟩
    · subst h2
      obtain ⟨v, h3, h4⟩ := h.get h1
      refine ⟨v, ?_, h4⟩
      unfold L2.start
      rw [List.getElem?_append_left (by simpa using (List.getElem?_eq_some_iff.mp h3).1), List.getElem?_map, h3]
      rfl
    · exact (nth_repl h2).elim
section
variable {P : Program} {w : World} {K : PySem.W.Frag} {mg : Str → Option Value} {base : Heap} {x qual : Str} {params : Arguments} {body : List Stmt} {scope : Scope} {dvs : List V} {kws : List (Str × V)} {f : Addr} {fd : FuncData}
theorem lift_body {N : List Str} {F0 Z : Hp} {H : Hp} {vs : List V} {Q : VK} {t : DTS} {O : OS} {ds : List D} {Qd : DQ} {K : PySem.W.Frag} (r : Rep K Z F0 H O) (is : Iss K F0 ds vs) (h : t ⟨fun _ O => Qd .non O, Qd, fun _ _ => False, fun _ _ => False⟩ (startD N ds) O) (c : Conv K Z F0 Qd Q) :
    liftS K (F0, Z) t { nx := fun _ H' => Q .non H', rt := Q } (L2.start N vs) H := by
  refine ⟨Z, _, O, F0, _, ⟨rfl, Ext.refl, repE_start is, r⟩, h, ⟨fun ρ' O' σ' F' H' a e q => c _ _ _ _ _ a.rep e Is.mkNon q, c, fun _ _ _ _ _ _ _ q => q, fun _ _ _ _ _ _ _ q => q⟩⟩
theorem okD {N ps : List Str} {k : Nat} {sp : DSp} {t : DWX → DTS} (F : FunD K x qual params body scope dvs kws f fd) (S : FnScope N ps scope) (len : ∀ ds O Q E, sp ds O Q E → ds.length = ps.length)
    (hd : ∀ (cdv : Value) (A : Around) (outer : List Env) (s : Shared) (H : Hp) (E : XK) (F0 : Bs) (W : DWX), Takes (cxOf (CX P w) P w K mg base N qual scope f cdv A outer s H E) (liftW K F0 W) → Room k (A.deeper (envOfC qual scope s.heap.objs.size f cdv)) →
      DSs (cxOf (CX P w) P w K mg base N qual scope f cdv A outer s H E) F0 body (t W))
    (hv : ∀ ds O Q E, sp ds O Q E → t (fun x _ O => E x O) ⟨fun _ O => Q .non O, Q, fun _ _ => False, fun _ _ => False⟩ (startD N ds) O) : FnOk P w K mg base (CX P w) (k + 1) f fd ps (liftF K sp) := by
  refine F.ok S (fun vs H Q E h => ?_) (fun cdv A outer s H vs Q E hr h => ?_)
  · obtain ⟨Z, ds, O, F, Qd, Ed, _, is, h, _, _⟩ := h
    rw [← is.len]; exact len _ _ _ _ h
  · obtain ⟨Z, ds, O, F0, Qd, Ed, r, is, h, c, cx⟩ := h
    have tk : Takes (cxOf (CX P w) P w K mg base N qual scope f cdv A outer s H E) (fun c d _ H' => E c d H') := takes_of (E₁ := fun e' s'' => L2.CX P w outer H s E e' s'') rfl rfl rfl rfl
    refine ⟨_, hd cdv A outer s H E (F0, Z) (fun x _ O => Ed x O) (tk.imp fun c d σ H' q => ?_) hr, lift_body r is (hv _ _ _ _ h) c⟩
    obtain ⟨Z', ρ, O', F', x, a, ix, hx⟩ := q
    have e : Z' = Z := a.zz
    subst e
    exact cx _ _ _ _ _ _ a.rep a.ext ix hx
end
end DS

namespace DS
open PySem PySem.Spec PyProof.Rows L2
def IssV (K : PySem.W.Frag) (F H : Hp) : List D → List V → Prop
  | [], vs => vs = []
  | d :: ds, vs => ∃ v r, vs = v :: r ∧ IsV K F H d v ∧ IssV K F H ds r
abbrev DRL := List D → OS → DQ → Prop
def dB (r : DRL) (t : DTA) : DTE := fun ρ O Q => t ρ O fun ds O1 => r (ds.map (vw O1)) O1 Q
def Lb (K : PySem.W.Frag) (r : DRL) (rH : List V → Hp → VK → Prop) : Prop := ∀ ds O Qd Z F H vs Q, Rep K Z F H O → IssV K F H ds vs → r ds O Qd → Conv K Z F Qd Q → rH vs H Q
section
variable {K : PySem.W.Frag} {F H : Hp} {O : OS}
theorem Rep.viewAll (r : Rep K Z F H O) : ∀ {ds : List D} {vs : List V}, Iss K F ds vs → IssV K F H (ds.map (vw O)) vs
  | [], _, h => by simp only [Iss] at h; exact h
  | d :: ds, _, h => by
    simp only [Iss] at h
    obtain ⟨v, t, rfl, h2, h3⟩ := h
    exact ⟨v, t, rfl, r.view h2, r.viewAll h3⟩
end
section
variable {X : Cx} {F0 : Bs} {x : Str} {p pos : Pos} {e : Expr} {es : List Expr} {td : DTA} {id T : String} {r : DRL} {rH : List V → Hp → VK → Prop}
theorem lift_b (l : Lb X.K r rH) {σ : L2.St} {H : Hp} {Q : VK} (h : liftE X.K F0 (dB r td) σ H Q) : tCB rH (liftA X.K F0 td) σ H Q := by
  obtain ⟨Z, ρ, O, F, Qd, at_, h, cv⟩ := h
  exact ⟨_, ρ, O, F, _, at_, h, fun ds O1 F1 H1 vs r1 e1 i1 h1 => l _ _ _ _ _ _ _ _ r1 (r1.viewAll i1) h1 (cv.ext e1)⟩
theorem de_b (hc : CallR X (.builtin id) rH) (l : Lb X.K r rH) (hg : Gl X x) (hm : X.mg x = none) (hv : bootBuiltins x = some (.builtin id)) (ha : DA X F0 (e :: es) td) (hn : x ≠ "__name__" := by decide) (hdb : (x == ("__debug__" : Str)) = false := by decide)
    (he : starEach (e :: es) X.env = (false, eval e X.env) :: starEach es X.env := by rfl) (hpl : (backTo pos (starEach es X.env)).any (·.1) = false := by rfl) : DE X F0 (.Call (.Name x p) (e :: es) [] pos) (dB r td) :=
  PE.imp (pe_callB hc hg hm hv ha hn hdb he hpl) fun _ _ _ => lift_b l
theorem de_bt (hc : CallR X (.type T) rH) (l : Lb X.K r rH) (hg : Gl X x) (hm : X.mg x = none) (hv : bootBuiltins x = some (.type T)) (ha : DA X F0 (e :: es) td) (hn : x ≠ "__name__" := by decide) (hdb : (x == ("__debug__" : Str)) = false := by decide)
    (he : starEach (e :: es) X.env = (false, eval e X.env) :: starEach es X.env := by rfl) (hpl : (backTo pos (starEach es X.env)).any (·.1) = false := by rfl) : DE X F0 (.Call (.Name x p) (e :: es) [] pos) (dB r td) :=
  PE.imp (pe_callTy hc hg hm hv ha hn hdb he hpl) fun _ _ _ => lift_b l
end
section
variable {K : PySem.W.Frag} {F H : Hp}
theorem issV1 {d : D} {vs : List V} (h : IssV K F H [d] vs) : ∃ v, vs = [v] ∧ IsV K F H d v := by
  obtain ⟨v, r, rfl, h1, h2⟩ := h
  exact ⟨v, by rw [show r = [] from h2], h1⟩
theorem issV2 {d e : D} {vs : List V} (h : IssV K F H [d, e] vs) : ∃ v w, vs = [v, w] ∧ IsV K F H d v ∧ IsV K F H e w := by
  obtain ⟨v, r, rfl, h1, h2⟩ := h
  obtain ⟨w, rfl, h3⟩ := issV1 h2
  exact ⟨v, w, rfl, h1, h3⟩
end

/-! ### len -/
def bLen : DRL
  | [.str xs], O, Q => Q (.int xs.length) O
  | [.tup xs], O, Q => Q (.int xs.length) O
  | [.lst xs], O, Q => Q (.int xs.length) O
  | [.fl xs], O, Q => Q (.int xs.length) O
  | [.dic xs], O, Q => Q (.int xs.length) O
  | _, _, _ => False
def rLenW (K : PySem.W.Frag) : List V → Hp → VK → Prop := fun xs H Q => (∃ x n, xs = [x] ∧ LenV K x H n ∧ Q (.int n) H) ∨ ∃ a kvs, xs = [.ref a] ∧ Rd H a (.dK kvs) ∧ Q (.int kvs.length) H
theorem call_lenW {X : Cx} : CallR X (.builtin "len") (rLenW X.K) := by
  intro pins s σ H xs us Q I r h
  rcases h with h | h
  · exact call_len pins s σ H xs us Q I r h
  · obtain ⟨a, kvs, rfl, hd, q⟩ := h
    obtain ⟨u, rfl, rx⟩ := vals1 r
    cases rx
    exact d_len I hd fun t s' I' => ⟨.int kvs.length, H, I', ⟨t, rfl⟩, q⟩
theorem l_len {K : PySem.W.Frag} : Lb K bLen (rLenW K) := by
  intro ds O Qd Z F H vs Q r is h c
  unfold bLen at h
  split at h
  · obtain ⟨v, rfl, i⟩ := issV1 is
    obtain ⟨e1, z1, _⟩ := i.str
    subst e1
    exact .inl ⟨_, _, rfl, ⟨by rw [tx_len]; exact z1, rfl⟩, by rw [tx_len]; exact c _ _ _ _ _ r Ext.refl Is.mkInt h⟩
  · obtain ⟨v, rfl, i⟩ := issV1 is
    obtain ⟨a, vs, rfl, hs, hi, hz⟩ := i
    refine .inl ⟨_, _, rfl, .inr ⟨vs, (SqT.of (r.sub _ _ hs)), rfl⟩, ?_⟩
    rw [← hi.len]
    exact c _ _ _ _ _ r Ext.refl Is.mkInt h
  · obtain ⟨v, rfl, i⟩ := issV1 is
    obtain ⟨a, vs, rfl, hs, hi, hz⟩ := i
    refine .inl ⟨_, _, rfl, .inl ⟨vs, .of hs, rfl⟩, ?_⟩
    rw [← hi.len]
    exact c _ _ _ _ _ r Ext.refl Is.mkInt h
  · obtain ⟨v, rfl, i⟩ := issV1 is
    obtain ⟨a, vs, rfl, hs, hi, hz⟩ := i
    refine .inl ⟨_, _, rfl, .inl ⟨vs, r.sub.sqL hs, rfl⟩, ?_⟩
    rw [← hi.len]
    exact c _ _ _ _ _ r Ext.refl Is.mkInt h
  · obtain ⟨v, rfl, i⟩ := issV1 is
    obtain ⟨a, kvs, rfl, hs, hi, _⟩ := i
    refine .inr ⟨a, kvs, rfl, hs, ?_⟩
    rw [← hi.len]
    exact c _ _ _ _ _ r Ext.refl Is.mkInt h
  · exact h.elim

/-! ### isinstance, of built-in types -/
def tyName : D → Option String
  | .non => some "NoneType"
  | .bl _ => some "bool"
  | .int _ => some "int"
  | .str _ => some "str"
  | .tup _ => some "tuple"
  | .lst _ => some "list"
  | .fl _ => some "list"
  | .dic _ => some "dict"
  | .dit _ => some "dict"
  | _ => none
def tyNames : List String := ["NoneType", "bool", "int", "str", "tuple", "list", "dict"]
def isiB (a b : String) : Bool := a == b || (a == "bool" && b == "int")
theorem kit_all : (tyNames.all fun a => tyNames.all fun b => kitB a b == some (isiB a b)) = true := by decide +kernel
theorem kit_isi {a b : String} (ha : a ∈ tyNames) (hb : b ∈ tyNames) : kitB a b = some (isiB a b) := by
  have h := List.all_eq_true.mp (List.all_eq_true.mp kit_all a ha) b hb
  exact eq_of_beq h
theorem tyName_mem {d : D} {n : String} (h : tyName d = some n) : n ∈ tyNames := by
  cases d <;> first | (cases h; decide) | cases h
def bIsi : DRL
  | [x, .atm (.ty n)], O, Q => (match tyName x with | some m => n ∈ tyNames ∧ Q (.bl (isiB m n)) O | none => False)
  | _, _, _ => False
inductive TyY (K : PySem.W.Frag) (H : Hp) : V → Value → Prop where
  | x {v : V} {t : Value} (h : TyX K H v t) : TyY K H v t
  | fDictT {a : Addr} {o : Obj} {kvs : List (List Key × V)} (e : H a = some (.frz o (.dT kvs))) : TyY K H (.ref a) (.type "dict")
theorem kit_ofY {X : Cx} {pins : List (Addr × Obj)} {σ : L2.St} {H : Hp} {s : Shared} {x : V} {u t : Value} (I : Inv X pins σ H s) (rx : RelV x u) (ty : TyX X.K H x t ∨ ∃ a o kvs, x = .ref a ∧ t = .type "dict" ∧ H a = some (.frz o (.dT kvs))) : True := trivial
theorem tyX_of {K : PySem.W.Frag} {F H : Hp} {O : OS} {d : D} {v : V} {n : String} (r : Rep K Z F H O) (h : IsV K F H d v) (e : tyName d = some n) (nd : ∀ k, d ≠ .dit k) : TyX K H v (.type n) := by
  cases d with
  | non => cases e; have : v = .non := h; subst this; exact .base .non
  | bl b => cases e; have : v = .bl b := h; subst this; exact .base (.bl b)
  | int b => cases e; have : v = .int b := h; subst this; exact .base (.int b)
  | str b => cases e; rw [h.str.1]; exact .base (.str _)
  | tup b =>
    cases e
    obtain ⟨a, vs, rfl, hs, _⟩ := h
    exact .base (.tup (r.sub _ _ hs))
  | lst b => cases e; obtain ⟨a, vs, rfl, hs, _⟩ := h; exact .base (.lst hs)
  | fl b =>
    cases e
    obtain ⟨a, vs, rfl, hs, _⟩ := h
    rcases r.sub.sqL hs with (h1 | ⟨o, h1⟩) | ⟨o, its, m, h1, h2, _⟩
    · exact .base (.lst h1)
    · exact .base (.frz h1)
    · exact .kList h1 h2
  | dic b =>
    cases e
    obtain ⟨a, kvs, rfl, h1 | ⟨o, h1⟩, _⟩ := h
    · exact .base (.dK h1)
    · exact .fDict h1
  | dit b => exact (nd b rfl).elim
  | _ => cases e
def bIsi' : DRL
  | [x, y], O, Q => (∀ k, x ≠ .dit k) ∧ bIsi [x, y] O Q
  | _, _, _ => False
theorem l_isi {K : PySem.W.Frag} : Lb K bIsi' (rIsi K) := by
  intro ds O Qd Z F H vs Q r is h c
  unfold bIsi' at h
  split at h
  · obtain ⟨nd, h⟩ := h
    obtain ⟨v, w, rfl, i1, i2⟩ := issV2 is
    unfold bIsi at h
    split at h
    · rename_i e
      injection e with e1 e2
      injection e2 with e2 _
      subst e1 e2
      have i2 : w = .ty _ := i2
      subst i2
      split at h
      · rename_i m hm
        exact ⟨v, .ty _, .type m, .type _, isiB m _, rfl, .ty _, tyX_of r i1 hm nd, kit_ty (kit_isi (tyName_mem hm) h.1), c _ _ _ _ _ r Ext.refl Is.mkBl h.2⟩
      · exact h.elim
    · exact h.elim
  · exact h.elim

/-! ### numbers -/
def bInt : DRL
  | [.int i], O, Q => Q (.int i) O
  | [.bl k], O, Q => Q (.int (if k then 1 else 0)) O
  | _, _, _ => False
theorem l_int {K : PySem.W.Frag} : Lb K bInt (fun xs H Q => (∃ i, xs = [.int i] ∧ Q (.int i) H) ∨ ∃ k, xs = [.bl k] ∧ Q (.int (if k then 1 else 0)) H) := by
  intro ds O Qd Z F H vs Q r is h c
  unfold bInt at h
  split at h
  · obtain ⟨v, rfl, i⟩ := issV1 is
    have i := i.int; subst i
    exact .inl ⟨_, rfl, c _ _ _ _ _ r Ext.refl Is.mkInt h⟩
  · obtain ⟨v, rfl, i⟩ := issV1 is
    have i : v = .bl _ := i; subst i
    exact .inr ⟨_, rfl, c _ _ _ _ _ r Ext.refl Is.mkInt h⟩
  · exact h.elim
def bAbs : DRL
  | [.int i], O, Q => Q (.int (if i < 0 then -i else i)) O
  | _, _, _ => False
theorem l_abs {K : PySem.W.Frag} : Lb K bAbs (fun xs H Q => ∃ i, xs = [.int i] ∧ Q (.int (if i < 0 then -i else i)) H) := by
  intro ds O Qd Z F H vs Q r is h c
  unfold bAbs at h
  split at h
  · obtain ⟨v, rfl, i⟩ := issV1 is
    have i := i.int; subst i
    exact ⟨_, rfl, c _ _ _ _ _ r Ext.refl Is.mkInt h⟩
  · exact h.elim
def bMax : DRL
  | [.int i, .int j], O, Q => Q (.int (if j > i then j else i)) O
  | _, _, _ => False
theorem l_max {K : PySem.W.Frag} : Lb K bMax (fun xs H Q => ∃ i j, xs = [.int i, .int j] ∧ Q (.int (if j > i then j else i)) H) := by
  intro ds O Qd Z F H vs Q r is h c
  unfold bMax at h
  split at h
  · obtain ⟨v, w, rfl, i, j⟩ := issV2 is
    have i := i.int; subst i
    have j := j.int; subst j
    exact ⟨_, _, rfl, c _ _ _ _ _ r Ext.refl Is.mkInt h⟩
  · exact h.elim
def bMin : DRL
  | [.int i, .int j], O, Q => Q (.int (if j < i then j else i)) O
  | _, _, _ => False
theorem l_min {K : PySem.W.Frag} : Lb K bMin (fun xs H Q => ∃ i j, xs = [.int i, .int j] ∧ Q (.int (if j < i then j else i)) H) := by
  intro ds O Qd Z F H vs Q r is h c
  unfold bMin at h
  split at h
  · obtain ⟨v, w, rfl, i, j⟩ := issV2 is
    have i := i.int; subst i
    have j := j.int; subst j
    exact ⟨_, _, rfl, c _ _ _ _ _ r Ext.refl Is.mkInt h⟩
  · exact h.elim
/-- lists of bools, of ints, of texts -/
def blsD : List D → Option (List Bool)
  | [] => some []
  | .bl b :: ds => (blsD ds).map (b :: ·)
  | _ => none
def intsD : List D → Option (List Int)
  | [] => some []
  | .int b :: ds => (intsD ds).map (b :: ·)
  | _ => none
def strsD : List D → Option (List (List Nat))
  | [] => some []
  | .str b :: ds => (strsD ds).map (b :: ·)
  | _ => none
section
variable {K : PySem.W.Frag} {F H : Hp}
theorem blsD_is : ∀ {ds : List D} {bs : List Bool} {vs : List V}, blsD ds = some bs → Iss K F ds vs → vs = bs.map V.bl
  | [], _, _, h, g => by cases h; simp only [Iss] at g; exact g
  | d :: ds, bs, _, h, g => by
    simp only [Iss] at g
    obtain ⟨v, r, rfl, h2, h3⟩ := g
    cases d with
    | bl b =>
      simp only [blsD, Option.map_eq_some_iff] at h
      obtain ⟨bs', h4, rfl⟩ := h
      simp only [Is] at h2
      rw [h2, blsD_is h4 h3]; rfl
    | _ => cases h
theorem intsD_is : ∀ {ds : List D} {bs : List Int} {vs : List V}, intsD ds = some bs → Iss K F ds vs → vs = bs.map V.int
  | [], _, _, h, g => by cases h; simp only [Iss] at g; exact g
  | d :: ds, bs, _, h, g => by
    simp only [Iss] at g
    obtain ⟨v, r, rfl, h2, h3⟩ := g
    cases d with
    | int b =>
      simp only [intsD, Option.map_eq_some_iff] at h
      obtain ⟨bs', h4, rfl⟩ := h
      simp only [Is] at h2
      rw [h2, intsD_is h4 h3]; rfl
    | _ => cases h
theorem strsD_is : ∀ {ds : List D} {bs : List (List Nat)} {vs : List V}, strsD ds = some bs → Iss K F ds vs → vs = (bs.map tx).map V.str ∧ ∀ b ∈ bs, Sz b.length ∧ Cok b
  | [], _, _, h, g => by cases h; simp only [Iss] at g; exact ⟨g, fun _ z => by cases z⟩
  | d :: ds, bs, _, h, g => by
    simp only [Iss] at g
    obtain ⟨v, r, rfl, h2, h3⟩ := g
    cases d with
    | str b =>
      simp only [strsD, Option.map_eq_some_iff] at h
      obtain ⟨bs', h4, rfl⟩ := h
      simp only [Is] at h2
      obtain ⟨h5, h6⟩ := strsD_is h4 h3
      refine ⟨by rw [h2.1, h5]; rfl, fun x hx => ?_⟩
      rcases List.mem_cons.mp hx with e | hx
      · subst e; exact h2.2
      · exact h6 x hx
    | _ => cases h
end
def bAll : DRL
  | [.lst ds], O, Q => (match blsD ds with | some bs => Q (.bl (bs.all id)) O | none => False)
  | _, _, _ => False
theorem l_all {K : PySem.W.Frag} : Lb K bAll (rAll K) := by
  intro ds O Qd Z F H vs Q r is h c
  unfold bAll at h
  split at h
  · obtain ⟨v, rfl, a, ws, rfl, hs, hi, hz⟩ := issV1 is
    split at h
    · rename_i hb
      have e := blsD_is hb hi
      subst e
      exact ⟨a, _, rfl, .of hs, c _ _ _ _ _ r Ext.refl Is.mkBl h⟩
    · exact h.elim
  · exact h.elim
def bAny : DRL
  | [.lst ds], O, Q => (match blsD ds with | some bs => Q (.bl (bs.any id)) O | none => False)
  | _, _, _ => False
theorem l_any {K : PySem.W.Frag} : Lb K bAny (rAny K) := by
  intro ds O Qd Z F H vs Q r is h c
  unfold bAny at h
  split at h
  · obtain ⟨v, rfl, a, ws, rfl, hs, hi, hz⟩ := issV1 is
    split at h
    · rename_i hb
      have e := blsD_is hb hi
      subst e
      exact ⟨a, _, rfl, .of hs, c _ _ _ _ _ r Ext.refl Is.mkBl h⟩
    · exact h.elim
  · exact h.elim
def bSum : DRL
  | [.lst ds], O, Q => (match intsD ds with | some bs => Q (.int bs.sum) O | none => False)
  | _, _, _ => False
theorem l_sum {K : PySem.W.Frag} : Lb K bSum (rSum K) := by
  intro ds O Qd Z F H vs Q r is h c
  unfold bSum at h
  split at h
  · obtain ⟨v, rfl, a, ws, rfl, hs, hi, hz⟩ := issV1 is
    split at h
    · rename_i hb
      have e := intsD_is hb hi
      subst e
      exact ⟨a, _, rfl, .of hs, c _ _ _ _ _ r Ext.refl Is.mkInt h⟩
    · exact h.elim
  · exact h.elim
/-- tuple(xs), list(xs) -/
def bTup : DRL
  | [.lst ds], O, Q => Q (.tup ds) O
  | [.tup ds], O, Q => Q (.tup ds) O
  | _, _, _ => False
theorem l_tup {K : PySem.W.Frag} : Lb K bTup (fun xs H Q => ∃ p ys, xs = [.ref p] ∧ ((SqL K H p ys ∧ ∀ l, H l = none → Q (.ref l) (upd H l (.tup ys))) ∨ (SqT K H p ys ∧ Q (.ref p) H))) := by
  intro ds O Qd Z F H vs Q r is h c
  unfold bTup at h
  split at h
  · obtain ⟨v, rfl, a, ws, rfl, hs, hi, hz⟩ := issV1 is
    exact ⟨a, ws, rfl, .inl ⟨.of hs, fun p hp => conv_tup c r hp hi hz h⟩⟩
  · obtain ⟨v, rfl, a, ws, rfl, hs, hi, hz⟩ := issV1 is
    exact ⟨a, ws, rfl, .inr ⟨(SqT.of (r.sub _ _ hs)), c _ _ _ _ _ r Ext.refl (Is.mkTup hs hi hz) h⟩⟩
  · exact h.elim
def bList : DRL
  | [x], O, Q => (match itemsD x with | some xs => Q (.lst xs) O | none => False)
  | _, _, _ => False
def bListM : DRL
  | [x], O, Q => (match itemsD x with | some xs => ∀ p, O p = none → Q (.atm (.ref p)) (oput O p (.lst xs)) | none => False)
  | _, _, _ => False
abbrev rListW (K : PySem.W.Frag) : List V → Hp → VK → Prop := fun xs H Q => ∃ p ys, xs = [.ref p] ∧ (SqL K H p ys ∨ SqT K H p ys) ∧ ∀ l, H l = none → Q (.ref l) (upd H l (.lst ys))
theorem l_list {K : PySem.W.Frag} : Lb K bList (rListW K) := by
  intro ds O Qd Z F H vs Q r is h c
  unfold bList at h
  split at h
  · obtain ⟨v, rfl, i⟩ := issV1 is
    split at h
    · rename_i hx
      obtain ⟨a, ws, rfl, hs, hi, hz⟩ := items_is r i hx
      exact ⟨a, ws, rfl, hs.symm, fun p hp => conv_lst c r hp hi hz h⟩
    · exact h.elim
  · exact h.elim
theorem l_listM {K : PySem.W.Frag} : Lb K bListM (rListW K) := by
  intro ds O Qd Z F H vs Q r is h c
  unfold bListM at h
  split at h
  · obtain ⟨v, rfl, i⟩ := issV1 is
    split at h
    · rename_i hx
      obtain ⟨a, ws, rfl, hs, hi, hz⟩ := items_is r i hx
      exact ⟨a, ws, rfl, hs.symm, fun p hp => conv_own (d := .lst _) c r hp ⟨ws, rfl, hi, hz⟩ (h p (r.fresh hp).2)⟩
    · exact h.elim
  · exact h.elim
def bStr : DRL
  | [.int i], O, Q => i.natAbs.log2 < 1920 ∧ Q (.str (cd (toString i : String))) O
  | _, _, _ => False
end DS

namespace DS
open PySem PySem.Spec PyProof.Rows L2
/-! ### o[i] of anything -/
def rIxDct : R2 := fun x y H Q => ∃ a v, x = .ref a ∧ DGet H a y (some v) ∧ Q v H
theorem ix_dict {X : Cx} (hu : X.A.units + 1 < cLine) : IxR X rIxDct := by
  intro value slice pins s σ H x y v u Q I rx ry h hs
  obtain ⟨a, z, rfl, g, q⟩ := h
  cases rx
  have hT := dict_typeIs I g
  unfold subscriptTail
  refine wpAny_bind ?_
  rw [getitemInPython_of_ne hT.not_modules]
  refine wpAny_bind (wpAny_specialOf hT PySem.F.slot_dict_getitem.lookup ?_)
  have fin : wpAny (model X.prog X.w) X.A (subscripted slice false (.ref a) u) (fun r s₃ => wpAny (model X.prog X.w) X.A (letTemporaryGo value (.ref a) r >>= fun _ => pure r) (EP X pins σ Q) X.xe s₃) X.xe s := by
    rw [hs]
    exact wpAny_operating (wpAny_mono (d_getItem hu I g ry fun w' s' I' rv => (⟨z, H, I', rv, q⟩ : EP X pins σ Q w' s')) (fun r s₃ h₃ => wpAny_bind (wpAny_letTemporaryGo (wpAny_pure h₃))) fun _ _ x => x)
  first
    | exact wpAny_pure (wpAny_bind fin)
    | exact wpAny_bind (wpAny_pure (wpAny_bind fin))
    | exact wpAny_bind fin
/-- what a dict has at a key -/
def lookD : D → D → Option (Option D)
  | .dic kds, x => (match keyD x with | some k => some (kget kds k) | none => none)
  | .dit kds, .tup xs => (match keysD xs with | some k => some (kget kds k) | none => none)
  | _, _ => none
section
variable {K : PySem.W.Frag} {F H : Hp} {O : OS}
theorem lookD_is {d x : D} {v y : V} {o : Option D} (r : Rep K Z F H O) (hd : IsV K F H d v) (hx : IsV K F H x y) (e : lookD d x = some o) :
    ∃ a ov, v = .ref a ∧ DGet H a y ov ∧ ((o = none ∧ ov = none) ∨ ∃ c w, o = some c ∧ ov = some w ∧ Is K F c w) := by
  unfold lookD at e
  split at e
  · split at e
    · rename_i k hk
      cases e
      obtain ⟨a, kvs, rfl, h1, h2, _⟩ := hd
      exact ⟨a, _, rfl, .inl ⟨kvs, kk k, h1, keyD_is hk hx, rfl⟩, by
        rcases h2.get k with ⟨p, q⟩ | ⟨c, w, p, q, z⟩
        · exact .inl ⟨p, q⟩
        · exact .inr ⟨c, w, p, q, z⟩⟩
    · cases e
  · split at e
    · rename_i k hk
      cases e
      obtain ⟨a, kvs, rfl, h1, h2, _⟩ := hd
      obtain ⟨b, vs, rfl, h3, h4, _⟩ := hx
      have := keysD_is hk h4
      subst this
      exact ⟨a, _, rfl, .inr ⟨kvs, k.map kk, b, h1, rfl, r.sub _ _ h3, rfl⟩, by
        rcases h2.get k with ⟨p, q⟩ | ⟨c, w, p, q, z⟩
        · exact .inl ⟨p, q⟩
        · exact .inr ⟨c, w, p, q, z⟩⟩
    · cases e
  · cases e
end
def gIx : DR2 := fun x y O Q => match lookD x y with
  | some (some d) => Q d O
  | some none => False
  | none => dIx x y O Q
theorem l_gix {K : PySem.W.Frag} : Lop K gIx (fun x y H Q => rIx K x y H Q ∨ rIxDct x y H Q) := by
  intro x y O Qd Z F H vx vy Q r ix iy h c
  unfold gIx at h
  split at h
  · rename_i d e
    obtain ⟨a, ov, rfl, g, ⟨h1, _⟩ | ⟨c', w, h1, h2, h3⟩⟩ := lookD_is r ix iy e
    · cases h1
    · cases h1
      subst h2
      exact .inr ⟨a, w, rfl, g, c _ _ _ _ _ r Ext.refl h3 h⟩
  · exact h.elim
  · exact .inl (l_ix x y O Qd Z F H vx vy Q r ix iy h c)
section
variable {X : Cx} {F0 : Bs} {pos : Pos} {a b : Expr} {ta tb : DTE}
theorem de_at {k : Nat} (hr : Room k X.A) (ha : DE X F0 a ta) (hb : DE X F0 b tb) (hs : PlainIx b := by exact fun _ _ => rfl) : DE X F0 (.Subscript a b pos) (dOp gIx ta tb) :=
  PE.imp (pe_ix (ix_seq.or (ix_dict (hu_of hr))) ha hb hs) fun _ _ _ => lift2 l_gix
end

/-! ### methods -/
abbrev DRM := D → List D → OS → DQ → Prop
def dM (T : String) (r : DRM) (to : DTE) (t : DTA) : DTE := fun ρ O Q => to ρ O fun x O1 => tyName (vw O1 x) = some T ∧ t ρ O1 fun ds O2 => r x ds O2 Q
/-- x and the arguments as they came -/
def Lm (K : PySem.W.Frag) (r : DRM) (rH : V → List V → Hp → VK → Prop) : Prop := ∀ x ds O Qd Z F H v vs Q, Rep K Z F H O → Is K F x v → Iss K F ds vs → r x ds O Qd → Conv K Z F Qd Q → rH v vs H Q
theorem tyV_of {K : PySem.W.Frag} {F H : Hp} {O : OS} {d : D} {v : V} {T : String} (r : Rep K Z F H O) (h : IsV K F H d v) (e : tyName d = some T) (hT : T = "str" ∨ T = "list") : tyV K T v H := by
  cases d with
  | str b => rw [h.str.1]; cases e; rfl
  | lst b => cases e; obtain ⟨a, vs, rfl, hs, _⟩ := h; exact .inl ⟨rfl, vs, .of hs⟩
  | fl b => cases e; obtain ⟨a, vs, rfl, hs, _⟩ := h; exact .inl ⟨rfl, vs, r.sub.sqL hs⟩
  | non => cases e; rcases hT with h | h <;> exact absurd h (by decide)
  | bl b => cases e; rcases hT with h | h <;> exact absurd h (by decide)
  | int b => cases e; rcases hT with h | h <;> exact absurd h (by decide)
  | tup b => cases e; rcases hT with h | h <;> exact absurd h (by decide)
  | dic b => cases e; rcases hT with h | h <;> exact absurd h (by decide)
  | dit b => cases e; rcases hT with h | h <;> exact absurd h (by decide)
  | _ => cases e
section
variable {X : Cx} {F0 : Bs} {o e : Expr} {es : List Expr} {to : DTE} {t : DTA} {name : Str} {apos cpos : Pos} {T id : String} {r : DRM} {rH : V → List V → Hp → VK → Prop}
theorem de_m (pa : PlainAttrs T) (slot : Slot T name id) (hty : typeOf (.builtin id) = pure (.type "method_descriptor")) (hm : MtR X id rH) (l : Lm X.K r rH) (hT : T = "str" ∨ T = "list") (ho : DE X F0 o to) (ha : DA X F0 (e :: es) t)
    (hbase : attributeBase o name X.env (eval o X.env) = eval o X.env := by rfl)
    (hfew : ((backTo cpos (starEach (e :: es) X.env)).all (fun x => !x.1) && (backToKw cpos (keywordEach [] X.env)).all (fun x => x.1.isSome)
      && decide ((e :: es).length + ([] : List Keyword).length + (if ([] : List Keyword).isEmpty then 0 else 1) < 30)) = true := by rfl)
    (hline : (apos.endLine == cpos.line) = true := by rfl) (hs : starEach (e :: es) X.env = (false, eval e X.env) :: starEach es X.env := by rfl) (hplain : (backTo cpos (starEach es X.env)).any (·.1) = false := by rfl) :
    DE X F0 (.Call (.Attribute o name apos) (e :: es) [] cpos) (dM T r to t) := PE.imp (pe_bm pa slot hty hm ho ha hbase hfew hline hs hplain) fun σ H Q h => by
  obtain ⟨Z, ρ, O, F, Qd, at_, h, cv⟩ := h
  refine ⟨_, ρ, O, F, _, at_, h, fun d O1 F1 H1 v r1 e1 i1 h1 => ?_⟩
  refine ⟨tyV_of r1 (r1.view i1) h1.1 hT, _, ρ, O1, F1, _, at_.step r1 e1, h1.2, fun ds O2 F2 H2 vs r2 e2 i2 h2 => ?_⟩
  exact l _ _ _ _ _ _ _ _ _ _ r2 (i1.ext e2) i2 h2 (cv.ext (e1.trans e2))
theorem de_m0 (pa : PlainAttrs T) (slot : Slot T name id) (hty : typeOf (.builtin id) = pure (.type "method_descriptor")) (hm : MtR X id rH) (l : Lm X.K r rH) (hT : T = "str" ∨ T = "list") (ho : DE X F0 o to)
    (hbase : attributeBase o name X.env (eval o X.env) = eval o X.env := by rfl) (hline : (apos.endLine == cpos.line) = true := by rfl) : DE X F0 (.Call (.Attribute o name apos) [] [] cpos) (dM T r to aNil) := PE.imp (pe_bm0 pa slot hty hm ho hbase hline) fun σ H Q h => by
  obtain ⟨Z, ρ, O, F, Qd, at_, h, cv⟩ := h
  refine ⟨_, ρ, O, F, _, at_, h, fun d O1 F1 H1 v r1 e1 i1 h1 => ?_⟩
  exact ⟨tyV_of r1 (r1.view i1) h1.1 hT, l _ _ _ _ _ _ _ _ _ _ r1 i1 Iss.nil h1.2 (cv.ext e1)⟩
end
theorem Own.ofLst {K : PySem.W.Frag} {F : Hp} {ds : List D} {vs : List V} (h : Iss K F ds vs) (z : Sz vs.length) : Own K F (.lst ds) (.lst vs) := ⟨vs, rfl, h, z⟩
theorem Own.ofDic {K : PySem.W.Frag} {F : Hp} {ds : List (KD × D)} {vs : List (Key × V)} (h : IsK K F ds vs) (z : Sz vs.length) : Own K F (.dic ds) (.dK vs) := ⟨vs, rfl, h, z⟩
theorem Own.ofDit {K : PySem.W.Frag} {F : Hp} {ds : List (List KD × D)} {vs : List (List Key × V)} (h : IsT K F ds vs) (z : Sz vs.length) : Own K F (.dit ds) (.dT vs) := ⟨vs, rfl, h, z⟩
/-- a list that may change -/
def ownL (O : OS) : D → Option (Addr × List D)
  | .atm (.ref p) => (match O p with | some (.lst xs) => some (p, xs) | _ => none)
  | _ => none
theorem ownL_is {K : PySem.W.Frag} {F H : Hp} {O : OS} {x : D} {v : V} {p : Addr} {xs : List D} (r : Rep K Z F H O) (h : Is K F x v) (e : ownL O x = some (p, xs)) : v = .ref p ∧ O p = some (.lst xs) ∧ ∃ vs, H p = some (.lst vs) ∧ Iss K F xs vs ∧ Sz vs.length := by
  unfold ownL at e
  split at e
  · simp only [Is] at h
    subst h
    split at e
    · rename_i e2
      cases e
      obtain ⟨_, o, h1, vs, rfl, h3, h4⟩ := r.own _ _ e2
      exact ⟨rfl, e2, vs, h1, h3, h4⟩
    · cases e
  · cases e
def mAppend : DRM := fun x ds O Q => match ownL O x, ds with
  | some (p, xs), [d] => xs.length < sizeLine ∧ Q .non (oput O p (.lst (xs ++ [d])))
  | _, _ => False
theorem lm_append {K : PySem.W.Frag} : Lm K mAppend rAppend := by
  intro x ds O Qd Z F H v vs Q r ix is h c
  unfold mAppend at h
  split at h
  · rename_i p xs d e
    obtain ⟨rfl, e2, ws, h1, h2, h3⟩ := ownL_is r ix e
    simp only [Iss] at is
    obtain ⟨w, t, rfl, i1, rfl⟩ := is
    refine ⟨p, ws, w, rfl, rfl, h1, by rw [← h2.len]; exact h.1, ?_⟩
    have z : Sz (ws ++ [w]).length := by rw [List.length_append]; have := h.1; rw [h2.len] at this; exact this
    exact c _ _ _ _ _ (r.chg e2 (o := .lst (ws ++ [w])) (Own.ofLst (h2.app (Iss.cons i1 Iss.nil)) z)) Ext.refl Is.mkNon h.2
  · exact h.elim
def mExtend : DRM := fun x ds O Q => match ownL O x, ds with
  | some (p, xs), [d] => (match vw O d with | .lst zs => Sz (xs.length + zs.length) ∧ Q .non (oput O p (.lst (xs ++ zs))) | _ => False)
  | _, _ => False
theorem lm_extend {K : PySem.W.Frag} : Lm K mExtend rExtend := by
  intro x ds O Qd Z F H v vs Q r ix is h c
  unfold mExtend at h
  split at h
  · rename_i p xs d e
    obtain ⟨rfl, e2, ws, h1, h2, h3⟩ := ownL_is r ix e
    simp only [Iss] at is
    obtain ⟨w, t, rfl, i1, rfl⟩ := is
    split at h
    · rename_i zs ez
      have iv := r.view i1
      rw [ez] at iv
      obtain ⟨b, us, rfl, h4, h5, h6⟩ := iv
      refine ⟨p, b, ws, us, rfl, rfl, h1, h4, by rw [← h2.len, ← h5.len]; exact h.1, ?_⟩
      exact c _ _ _ _ _ (r.chg e2 (o := .lst (ws ++ us)) (Own.ofLst (h2.app h5) (by rw [List.length_append, ← h2.len, ← h5.len]; exact h.1))) Ext.refl Is.mkNon h.2
    · exact h.elim
  · exact h.elim
def mPopAt : DRM := fun x ds O Q => match ownL O x, ds with
  | some (p, xs), [.int i] => (match ixN xs.length i with | some k => (match xs[k]? with | some d => Q d (oput O p (.lst (xs.eraseIdx k))) | none => False) | none => False)
  | _, _ => False
theorem lm_popAt {K : PySem.W.Frag} : Lm K mPopAt rPopAt := by
  intro x ds O Qd Z F H v vs Q r ix is h c
  unfold mPopAt at h
  split at h
  · rename_i p xs i e
    obtain ⟨rfl, e2, ws, h1, h2, h3⟩ := ownL_is r ix e
    simp only [Iss] at is
    obtain ⟨w, t, rfl, i1, rfl⟩ := is
    simp only [Is] at i1
    subst i1
    split at h
    · rename_i k hk
      split at h
      · rename_i d hd
        obtain ⟨w, h4, h5⟩ := h2.get hd
        rw [h2.len] at hk
        obtain ⟨q1, q2, q3, q4⟩ := ixN_seq hk
        have hz := line63
        have h3' : ws.length ≤ sizeLine := h3
        refine ⟨p, ws, i, k, w, rfl, rfl, h1, by omega, by omega, q1, h4, ?_⟩
        refine c _ _ _ _ _ (r.chg e2 (o := .lst (ws.eraseIdx k)) (Own.ofLst (h2.erase k) (Nat.le_trans (len_erase _ _) h3))) Ext.refl h5 h
      · exact h.elim
    · exact h.elim
  · exact h.elim
def mPop : DRM := fun x ds O Q => match ownL O x, ds with
  | some (p, xs), [] => (match xs[xs.length - 1]? with | some d => Q d (oput O p (.lst xs.dropLast)) | none => False)
  | _, _ => False
theorem lm_pop {K : PySem.W.Frag} : Lm K mPop rPop := by
  intro x ds O Qd Z F H v vs Q r ix is h c
  unfold mPop at h
  split at h
  · rename_i p xs e
    obtain ⟨rfl, e2, ws, h1, h2, h3⟩ := ownL_is r ix e
    simp only [Iss] at is
    subst is
    split at h
    · rename_i d hd
      obtain ⟨w, h4, h5⟩ := h2.get hd
      rw [h2.len] at h4
      refine ⟨p, ws, w, rfl, rfl, h1, h4, ?_⟩
      refine c _ _ _ _ _ (r.chg e2 (o := .lst ws.dropLast) (Own.ofLst ?_ ?_)) Ext.refl h5 h
      · rw [List.dropLast_eq_take, List.dropLast_eq_take, h2.len]; exact h2.take _
      · rw [List.length_dropLast]; exact Nat.le_trans (Nat.sub_le _ _) h3
    · exact h.elim
  · exact h.elim
/-- sep.join(xs) -/
def joinD (s : List Nat) : List (List Nat) → List Nat
  | [] => []
  | [x] => x
  | x :: y :: r => x ++ (s ++ joinD s (y :: r))
theorem tx_join (s : List Nat) : ∀ xs : List (List Nat), Str.join (tx s) (xs.map tx) = tx (joinD s xs)
  | [] => rfl
  | [x] => rfl
  | x :: y :: r => by
    show tx x ++ tx s ++ Str.join (tx s) ((y :: r).map tx) = _
    rw [tx_join s (y :: r), tx_app, tx_app]
    simp [joinD]
theorem joinD_ok {s : List Nat} (hs : Cok s) : ∀ {xs : List (List Nat)}, (∀ x ∈ xs, Cok x) → Cok (joinD s xs)
  | [], _ => fun _ z => by cases z
  | [x], h => h x (by simp)
  | x :: y :: r, h => (h x (by simp)).app (hs.app (joinD_ok hs fun z hz => h z (by simp [List.mem_cons.mp hz])))
theorem joinD_len {s : List Nat} : ∀ {xs : List (List Nat)}, (joinD s xs).length ≤ (xs.map List.length).sum + xs.length * s.length
  | [] => by simp [joinD]
  | [x] => by simp [joinD]
  | x :: y :: r => by
    have := joinD_len (s := s) (xs := y :: r)
    simp only [joinD, List.length_append, List.map_cons, List.sum_cons, List.length_cons] at this ⊢
    rw [Nat.add_mul] at this ⊢
    rw [Nat.add_mul]
    omega
def mJoin : DRM := fun x ds O Q => match x, ds with
  | .str s, [d] => (match itemsD (vw O d) with
    | some ys => (match strsD ys with | some xs => (xs.map List.length).sum + xs.length * s.length ≤ 16777216 ∧ Q (.str (joinD s xs)) O | none => False)
    | none => False)
  | _, _ => False
theorem join_txt (a : Str) (ys : List Str) : Txt.join a ys = Str.join a ys := TL.join_eq a ys
theorem lm_join {K : PySem.W.Frag} : Lm K mJoin (fun x xs H Q => ∃ a p, ∃ ys : List Str, x = .str a ∧ xs = [.ref p] ∧ (SqL K H p (ys.map V.str) ∨ SqT K H p (ys.map V.str)) ∧
      (ys.map (·.length)).sum + ys.length * a.length ≤ 16777216 ∧ Q (.str (Txt.join a ys)) H) := by
  intro x ds O Qd Z F H v vs Q r ix is h c
  unfold mJoin at h
  split at h
  · simp only [Is] at ix
    obtain ⟨rfl, z1, c1⟩ := ix
    simp only [Iss] at is
    obtain ⟨w, t, rfl, i1, rfl⟩ := is
    split at h
    · rename_i ys ey
      split at h
      · rename_i xs ex
        obtain ⟨a, ws, rfl, hs, hi, hz⟩ := items_is r (r.view i1) ey
        obtain ⟨e1, e2⟩ := strsD_is ex hi
        subst e1
        refine ⟨_, a, xs.map tx, rfl, rfl, hs.symm, ?_, ?_⟩
        · rw [List.map_map, List.length_map, tx_len]
          have : ((fun x : Str => x.length) ∘ tx) = List.length := by funext z; exact tx_len z
          rw [this]; exact h.1
        · rw [join_txt, tx_join]
          exact c _ _ _ _ _ r Ext.refl (Is.mkStr (Nat.le_trans joinD_len (Nat.le_trans h.1 (by rw [sizeLine_eq]; decide))) (joinD_ok c1 fun z hz => (e2 z hz).2)) h.2
      · exact h.elim
    · exact h.elim
  · exact h.elim

/-! ### dicts: get, setdefault, d[k] = v -/
def isDic : D → Bool
  | .dic _ => true
  | .dit _ => true
  | _ => false
theorem isD_of {K : PySem.W.Frag} {F H : Hp} {d : D} {v : V} (h : IsV K F H d v) (e : isDic d = true) : ∃ a, v = .ref a ∧ IsD H a := by
  cases d with
  | dic b => obtain ⟨a, kvs, rfl, h1, _⟩ := h; exact ⟨a, rfl, .inl ⟨kvs, h1⟩⟩
  | dit b => obtain ⟨a, kvs, rfl, h1, _⟩ := h; exact ⟨a, rfl, .inr ⟨kvs, h1⟩⟩
  | _ => cases e
def dGet1 (td ty : DTE) : DTE := fun ρ O Q => td ρ O fun x O1 => isDic (vw O1 x) = true ∧ ty ρ O1 fun y O2 => match lookD (vw O2 x) (vw O2 y) with | some o => Q (o.getD .non) O2 | none => False
def dGet2 (td ty tz : DTE) : DTE := fun ρ O Q => td ρ O fun x O1 => isDic (vw O1 x) = true ∧ ty ρ O1 fun y O2 => tz ρ O2 fun z O3 => match lookD (vw O3 x) (vw O3 y) with | some o => Q (o.getD z) O3 | none => False
def ownK (O : OS) : D → Option (Addr × List (KD × D))
  | .atm (.ref p) => (match O p with | some (.dic xs) => some (p, xs) | _ => none)
  | _ => none
theorem ownK_is {K : PySem.W.Frag} {F H : Hp} {O : OS} {x : D} {v : V} {p : Addr} {xs : List (KD × D)} (r : Rep K Z F H O) (h : Is K F x v) (e : ownK O x = some (p, xs)) : v = .ref p ∧ O p = some (.dic xs) ∧ ∃ vs, H p = some (.dK vs) ∧ IsK K F xs vs ∧ Sz vs.length := by
  unfold ownK at e
  split at e
  · simp only [Is] at h
    subst h
    split at e
    · rename_i e2
      cases e
      obtain ⟨_, o, h1, vs, rfl, h3, h4⟩ := r.own _ _ e2
      exact ⟨rfl, e2, vs, h1, h3, h4⟩
    · cases e
  · cases e
def dSetd (td ty tz : DTE) : DTE := fun ρ O Q => td ρ O fun x O1 => isDic (vw O1 x) = true ∧ ty ρ O1 fun y O2 => tz ρ O2 fun z O3 => match ownK O3 x, keyD (vw O3 y) with
  | some (p, kds), some k => (kds.length < sizeLine ∧ (kds.map (·.1)).Nodup) ∧ (match kget kds k with | some d => Q d O3 | none => Q z (oput O3 p (.dic (kput kds k z))))
  | _, _ => False
section
variable {X : Cx} {F0 : Bs} {o e f : Expr} {td ty tz : DTE} {apos cpos : Pos} {k : Nat}
theorem de_get1 (hr : Room k X.A) (ho : DE X F0 o td) (he : DE X F0 e ty) (m : M1 X o "get" apos e cpos := by exact ⟨rfl, rfl, rfl, rfl⟩) : DE X F0 (.Call (.Attribute o "get" apos) [e] [] cpos) (dGet1 td ty) := PE.imp (pe_dget1 (hu_of hr) ho he m) fun σ H Q h => by
  obtain ⟨Z, ρ, O, F, Qd, at_, h, cv⟩ := h
  refine ⟨_, ρ, O, F, _, at_, h, fun d O1 F1 H1 v r1 e1 i1 h1 => ?_⟩
  obtain ⟨a, rfl, hd⟩ := isD_of (r1.view i1) h1.1
  refine ⟨a, rfl, hd, _, ρ, O1, F1, _, at_.step r1 e1, h1.2, fun y O2 F2 H2 w r2 e2 i2 h2 => ?_⟩
  split at h2
  · rename_i o eo
    obtain ⟨b, ov, eb, g, hh⟩ := lookD_is r2 (r2.view (i1.ext e2)) (r2.view i2) eo
    cases eb
    refine ⟨ov, g, ?_⟩
    rcases hh with ⟨rfl, rfl⟩ | ⟨c, w', rfl, rfl, z⟩
    · exact cv _ _ _ _ _ r2 (e1.trans e2) Is.mkNon h2
    · exact cv _ _ _ _ _ r2 (e1.trans e2) z h2
  · exact h2.elim
theorem de_get2 (hr : Room k X.A) (ho : DE X F0 o td) (he : DE X F0 e ty) (hf : DE X F0 f tz) (m : M2 X o "get" apos e f cpos := by exact ⟨rfl, rfl, rfl, rfl⟩) : DE X F0 (.Call (.Attribute o "get" apos) [e, f] [] cpos) (dGet2 td ty tz) := PE.imp (pe_dget2 (hu_of hr) ho he hf m) fun σ H Q h => by
  obtain ⟨Z, ρ, O, F, Qd, at_, h, cv⟩ := h
  refine ⟨_, ρ, O, F, _, at_, h, fun d O1 F1 H1 v r1 e1 i1 h1 => ?_⟩
  obtain ⟨a, rfl, hd⟩ := isD_of (r1.view i1) h1.1
  refine ⟨a, rfl, hd, _, ρ, O1, F1, _, at_.step r1 e1, h1.2, fun y O2 F2 H2 w r2 e2 i2 h2 => ?_⟩
  refine ⟨_, ρ, O2, F2, _, at_.step r2 (e1.trans e2), h2, fun zz O3 F3 H3 wz r3 e3 i3 h3 => ?_⟩
  split at h3
  · rename_i o eo
    obtain ⟨b, ov, eb, g, hh⟩ := lookD_is r3 (r3.view (i1.ext (e2.trans e3))) (r3.view (i2.ext e3)) eo
    cases eb
    refine ⟨ov, g, ?_⟩
    rcases hh with ⟨rfl, rfl⟩ | ⟨c, w', rfl, rfl, z⟩
    · exact cv _ _ _ _ _ r3 (e1.trans (e2.trans e3)) i3 h3
    · exact cv _ _ _ _ _ r3 (e1.trans (e2.trans e3)) z h3
  · exact h3.elim
theorem de_setd (ho : DE X F0 o td) (he : DE X F0 e ty) (hf : DE X F0 f tz) (m : M2 X o "setdefault" apos e f cpos := by exact ⟨rfl, rfl, rfl, rfl⟩) : DE X F0 (.Call (.Attribute o "setdefault" apos) [e, f] [] cpos) (dSetd td ty tz) := PE.imp (pe_dsetd ho he hf m) fun σ H Q h => by
  obtain ⟨Z, ρ, O, F, Qd, at_, h, cv⟩ := h
  refine ⟨_, ρ, O, F, _, at_, h, fun d O1 F1 H1 v r1 e1 i1 h1 => ?_⟩
  obtain ⟨a, rfl, hd⟩ := isD_of (r1.view i1) h1.1
  refine ⟨a, rfl, hd, _, ρ, O1, F1, _, at_.step r1 e1, h1.2, fun y O2 F2 H2 w r2 e2 i2 h2 => ?_⟩
  refine ⟨_, ρ, O2, F2, _, at_.step r2 (e1.trans e2), h2, fun zz O3 F3 H3 wz r3 e3 i3 h3 => ?_⟩
  have ee := e1.trans (e2.trans e3)
  split at h3
  · rename_i p kds kd ep ek
    obtain ⟨eb, eO, kvs, hk, ik, _⟩ := ownK_is r3 (i1.ext (e2.trans e3)) ep
    cases eb
    obtain ⟨⟨hl, hn⟩, h3⟩ := h3
    refine ⟨kvs, kk kd, hk, keyD_is ek (r3.view (i2.ext e3)), by rw [← ik.len]; exact hl, fun v' hv => ?_, fun hv => ?_⟩
    · rcases ik.get kd with ⟨p1, q1⟩ | ⟨c, w', p1, q1, z⟩
      · rw [q1] at hv; cases hv
      · rw [q1] at hv; cases hv
        rw [p1] at h3
        exact cv _ _ _ _ _ r3 ee z h3
    · rcases ik.get kd with ⟨p1, q1⟩ | ⟨c, w', p1, q1, z⟩
      · rw [p1] at h3
        exact cv _ _ _ _ _ (r3.chg eO (o := .dK (putK kvs (kk kd) wz)) (Own.ofDic (ik.put hn kd (keyD_ok ek (r3.view (i2.ext e3))) i3) (Nat.le_trans (length_putK _ _ _) (by rw [← ik.len]; exact hl)))) ee i3 h3
      · rw [q1] at hv; cases hv
  · exact h3.elim
/-- {}, as a dict with one kind of keys that may change -/
def dNewK : DTE := fun _ O Q => ∀ p, O p = none → Q (.atm (.ref p)) (oput O p (.dic []))
theorem de_newK : DE X F0 (.Dict [] [] cpos) dNewK := PE.imp pe_dnewK fun σ H Q h p hp => by
  obtain ⟨Z, ρ, O, F, Qd, at_, h, cv⟩ := h
  exact conv_own (d := .dic []) cv at_.rep hp (Own.ofDic (by simp only [IsK]) (Nat.zero_le _)) (h p (at_.rep.fresh hp).2)
def dNewT : DTE := fun _ O Q => ∀ p, O p = none → Q (.atm (.ref p)) (oput O p (.dit []))
theorem de_newT : DE X F0 (.Dict [] [] cpos) dNewT := PE.imp pe_dnewT fun σ H Q h p hp => by
  obtain ⟨Z, ρ, O, F, Qd, at_, h, cv⟩ := h
  exact conv_own (d := .dit []) cv at_.rep hp (Own.ofDit (by simp only [IsT]) (Nat.zero_le _)) (h p (at_.rep.fresh hp).2)
end
/-- d[k] = v, by values -/
def putD (O : OS) : D → D → D → Option OS
  | .atm (.ref p), y, z => (match O p with
    | some (.dic kds) => (match keyD y with | some k => some (oput O p (.dic (kput kds k z))) | none => none)
    | some (.dit kds) => (match y with | .tup xs => (match keysD xs with | some k => some (oput O p (.dit (kput kds k z))) | none => none) | _ => none)
    | _ => none)
  | _, _, _ => none
end DS

namespace DS
open PySem PySem.Spec PyProof.Rows L2

/-! ### what is walked -/
structure ItOk (K : PySem.W.Frag) (F : Hp) (its : List D) (keep : OS → Prop) (J : It) : Prop where
  go : ∀ Z i F1 H1 O1, Ext F F1 → Rep K Z F1 H1 O1 → keep O1 → i < its.length → J.go i H1
  yld : ∀ Z i F1 H1 O1 x H2 d, Ext F F1 → Rep K Z F1 H1 O1 → keep O1 → its[i]? = some d → J.yld i H1 x H2 → ∃ F2, Rep K Z F2 H2 O1 ∧ Ext F1 F2 ∧ Is K F2 d x
  stop : ∀ Z F1 H1 O1, Ext F F1 → Rep K Z F1 H1 O1 → keep O1 → J.stop its.length H1
  sz : Sz its.length
abbrev DRI := List D → (OS → Prop) → OS → Prop
abbrev DTI := Env' → OS → DRI → Prop
def liftI (K : PySem.W.Frag) (F0 : Bs) (t : DTI) : TI := fun σ H R => ∃ Z ρ O F Rd, At K F0 Z σ H ρ O F ∧ t ρ O Rd ∧ ∀ its keep O' F' H' J, Rep K Z F' H' O' → Ext F F' → ItOk K F' its keep J → Rd its keep O' → R J H'
abbrev DI (X : Cx) (F0 : Bs) (tg e : Expr) (t : DTI) : Prop := PI X tg e (liftI X.K F0 t)
theorem PI.imp {X : Cx} {tg e : Expr} {t t' : TI} (h : PI X tg e t) (i : ∀ σ H R, t' σ H R → t σ H R) : PI X tg e t' := ⟨fun pins s σ H R I w => h.run pins s σ H R I (i σ H R w)⟩
def kAny : OS → Prop := fun _ => True
/-- a list, a tuple, a text, a dict's keys -/
def iAny (t : DTE) : DTI := fun ρ O R => t ρ O fun x O1 => match x with
  | .tup xs => R xs kAny O1
  | .lst xs => R xs kAny O1
  | .fl xs => R xs kAny O1
  | .str cs => R (cs.map fun c => .str [c]) kAny O1
  | .dic kds => R (kds.map fun kd => match kd.1 with | .i n => .int n | .s cs => .str cs) kAny O1
  | .atm (.ref p) => (match O1 p with | some (.lst xs) => R xs (fun O' => O' p = some (.lst xs)) O1 | _ => False)
  | _ => False
def rIt (K : PySem.W.Frag) : V → Hp → (It → Hp → Prop) → Prop := fun x H R => (∃ a, x = .ref a ∧ (∃ xs, SqL K H a xs) ∧ R (Itl K a) H) ∨ ((∃ a, x = .ref a ∧ (∃ xs, SqT K H a xs) ∧ R (Itt K a) H) ∨ ((∃ z, x = .str z ∧ R (Its z) H) ∨
  ∃ d o kvs, x = .ref d ∧ H d = some (.frz o (.dK kvs)) ∧ R (Itk d o kvs) H))
theorem pi_all {X : Cx} {tg l : Expr} {tl : TE} (hl : PE X l tl) : PI X tg l (fun σ H R => tl σ H fun x H1 => rIt X.K x H1 R) := by
  refine ⟨fun pins s σ H R I h => ?_⟩
  refine thn (hl.run pins s σ H _ I h) fun v s1 ⟨x, H1, I1, r1, q1⟩ => ?_
  rcases q1 with ⟨a, e, ⟨xs, hq⟩, q⟩ | ⟨a, e, ⟨xs, hq⟩, q⟩ | ⟨z, e, q⟩ | ⟨d, o, kvs, e, hd, q⟩
  · subst e
    cases r1
    obtain ⟨its, rv, p, hz⟩ := I1.list hq
    refine wpAny_pyIter_list p.isList ?_
    refine ⟨s1.heap.objs.size, [s1.heap.objs.size], _, _, H1, rfl, I1.kept (t' := s1.toks) fun b o e => Heap.get?_push_of_some _ e, turn_list a _, ⟨_, Heap.get?_push_size _ rfl, rfl, rfl⟩, fun b hb => ?_, q⟩
    have e : b = s1.heap.objs.size := by simpa using hb
    subst e
    exact I1.fpOk (Nat.le_refl _) (I1.hok.fresh (Nat.le_refl _))
  · subst e
    cases r1
    obtain ⟨its, rv, p, hz⟩ := I1.tuple hq
    refine wpAny_pyIter_tuple (show s1.heap.IsTuple a its.toArray from p) ?_
    refine ⟨s1.heap.objs.size, [s1.heap.objs.size], _, _, H1, rfl, I1.kept (t' := s1.toks) fun b o e => Heap.get?_push_of_some _ e, turn_tuple a _, ⟨_, Heap.get?_push_size _ rfl, rfl, rfl⟩, fun b hb => ?_, q⟩
    have e : b = s1.heap.objs.size := by simpa using hb
    subst e
    exact I1.fpOk (Nat.le_refl _) (I1.hok.fresh (Nat.le_refl _))
  · subst e
    obtain ⟨t, rfl⟩ := r1
    cases ha : z.cps.all (· < 128)
    · exact wpAny_pyIter_wide ha (pi_one (tk := s1.toks) I1 _ (turn_str _ z t "str_iterator" (.inr rfl)) ⟨_, Heap.get?_push_size _ rfl, rfl, rfl⟩ q)
    · exact wpAny_pyIter_ascii ha (pi_one (tk := s1.toks) I1 _ (turn_str _ z t "str_ascii_iterator" (.inl rfl)) ⟨_, Heap.get?_push_size _ rfl, rfl, rfl⟩ q)
  · subst e
    obtain rfl : v = Value.ref d := r1
    obtain ⟨hs, hgd, hx, es, ep, vs, hdt, hsz, kv, hm⟩ := I1.frzK hd
    refine iter_keys hs hgd hx hdt (pi_one (tk := s1.toks) I1 _ (turn_keys _ hdt) ⟨_, Heap.get?_push_size _ rfl, rfl, ?_⟩ q)
    rw [hsz] <;> rfl
section
variable {K : PySem.W.Frag} {F : Hp}
theorem itOk_seq {its : List D} {a : Addr} {vs : List V} (i : Iss K F its vs) (z : Sz vs.length) {keep : OS → Prop} {J : It} (hJ : (J = Itl K a ∧ ∀ Z F1 H1 O1, Ext F F1 → Rep K Z F1 H1 O1 → keep O1 → SqL K H1 a vs) ∨ (J = Itt K a ∧ ∀ Z F1 H1 O1, Ext F F1 → Rep K Z F1 H1 O1 → keep O1 → SqT K H1 a vs)) : ItOk K F its keep J := by
  have at_ : ∀ j, j < its.length → ∃ v, vs[j]? = some v := fun j hj => by
    rw [i.len] at hj
    exact ⟨_, List.getElem?_eq_getElem hj⟩
  rcases hJ with ⟨rfl, hJ⟩ | ⟨rfl, hJ⟩
  · refine ⟨fun Z j F1 H1 O1 e r k hj => ?_, fun Z j F1 H1 O1 x H2 d e r k hj y => ?_, fun Z F1 H1 O1 e r k => ⟨vs, hJ _ _ _ _ e r k, by rw [i.len]; exact Nat.le_refl _⟩, by rw [i.len]; exact z⟩
    · obtain ⟨v, hv⟩ := at_ j hj
      exact ⟨vs, v, hJ _ _ _ _ e r k, hv⟩
    · obtain ⟨rfl, y⟩ := y
      obtain ⟨v, hv, hi⟩ := i.get hj
      have q := y vs (hJ _ _ _ _ e r k)
      rw [hv] at q; cases q
      exact ⟨F1, r, Ext.refl, hi.ext e⟩
  · refine ⟨fun Z j F1 H1 O1 e r k hj => ?_, fun Z j F1 H1 O1 x H2 d e r k hj y => ?_, fun Z F1 H1 O1 e r k => ⟨vs, hJ _ _ _ _ e r k, by rw [i.len]; exact Nat.le_refl _⟩, by rw [i.len]; exact z⟩
    · obtain ⟨v, hv⟩ := at_ j hj
      exact ⟨vs, v, hJ _ _ _ _ e r k, hv⟩
    · obtain ⟨rfl, y⟩ := y
      obtain ⟨v, hv, hi⟩ := i.get hj
      have q := y vs (hJ _ _ _ _ e r k)
      rw [hv] at q; cases q
      exact ⟨F1, r, Ext.refl, hi.ext e⟩
theorem itOk_str {cs : List Nat} (z : Sz cs.length) (c : Cok cs) : ItOk K F (cs.map fun c => .str [c]) kAny (Its (tx cs)) := by
  refine ⟨fun Z j F1 H1 O1 e r k hj => ?_, fun Z j F1 H1 O1 x H2 d e r k hj y => ?_, fun Z F1 H1 O1 e r k => ?_, by rw [List.length_map]; exact z⟩
  · rw [List.length_map] at hj
    show j < (tx cs).cps.size
    simpa [tx] using hj
  · obtain ⟨rfl, n, h1, rfl⟩ := y
    rw [List.getElem?_map] at hj
    have h2 : cs[j]? = some n := by simpa [tx] using h1
    rw [h2] at hj
    cases hj
    exact ⟨F1, r, Ext.refl, Is.mkStr (x := [n]) sz_one (one_ok (c n (List.mem_of_getElem? h2)))⟩
  · rw [List.length_map]
    show (tx cs).cps.size ≤ _
    simp [tx]
theorem IsK.at : ∀ {ds : List (KD × D)} {kvs : List (Key × V)}, IsK K F ds kvs → ∀ j : Nat, (∀ k v, kvs[j]? = some (k, v) → ∃ kd d, ds[j]? = some (kd, d) ∧ k = kk kd ∧ KOk kd)
  | [], _, h, j, k, v, e => by simp only [IsK] at h; subst h; simp at e
  | (k', d) :: ds, _, h, 0, k, v, e => by
    simp only [IsK] at h
    obtain ⟨v', r, rfl, _, _, h4⟩ := h
    simp at e
    exact ⟨k', d, rfl, e.1.symm, h4⟩
  | (k', d) :: ds, _, h, j + 1, k, v, e => by
    simp only [IsK] at h
    obtain ⟨v', r, rfl, _, h3, _⟩ := h
    obtain ⟨kd, d', h4, h5⟩ := IsK.at h3 j k v (by simpa using e)
    exact ⟨kd, d', by simpa using h4, h5⟩
def keyData (k : KD) : D := match k with | .i n => .int n | .s cs => .str cs
theorem itOk_keys {kds : List (KD × D)} {kvs : List (Key × V)} {a : Addr} {o : Obj} (h : F a = some (.frz o (.dK kvs))) (i : IsK K F kds kvs) (z : Sz kvs.length) : ItOk K F (kds.map fun kd => match kd.1 with | .i n => .int n | .s cs => .str cs) kAny (Itk a o kvs) := by
  refine ⟨fun Z j F1 H1 O1 e r k hj => ?_, fun Z j F1 H1 O1 x H2 d e r k hj y => ?_, fun Z F1 H1 O1 e r k => ?_, by rw [List.length_map, i.len]; exact z⟩
  · rw [List.length_map, i.len] at hj
    exact ⟨r.sub _ _ (e _ _ h), hj⟩
  · obtain ⟨rfl, k', v, h1, rfl⟩ := y
    obtain ⟨kd, d', h2, h3, h4⟩ := i.at j k' v h1
    rw [List.getElem?_map, h2] at hj
    cases hj
    subst h3
    refine ⟨F1, r, Ext.refl, ?_⟩
    cases kd with
    | i n => exact Is.mkInt
    | s cs =>
      exact Is.mkStr h4.1 h4.2
  · rw [List.length_map, i.len]
    exact ⟨r.sub _ _ (e _ _ h), Nat.le_refl _⟩
end
end DS

namespace DS
open PySem PySem.Spec PyProof.Rows L2
section
variable {X : Cx} {F0 : Bs} {tg e a b : Expr} {te ta tb : DTE} {t : DTA} {p pos : Pos}
theorem itOk_own {K : PySem.W.Frag} {F H : Hp} {O : OS} {xs : List D} (p : Addr) (r1 : Rep K Z F H O) (ep : O p = some (.lst xs)) : ItOk K F xs (fun O' => O' p = some (.lst xs)) (Itl K p) := by
  obtain ⟨_, o, h2, vs, rfl, h3, h4⟩ := r1.own p _ ep
  have sq : ∀ Z F1 H1 O1, Rep K Z F1 H1 O1 → O1 p = some (.lst xs) → ∃ ws, SqL K H1 p ws ∧ Iss K F1 xs ws := fun Z F1 H1 O1 r k => by
    obtain ⟨_, o, h5, ws, rfl, h6, h7⟩ := r.own p _ k
    exact ⟨ws, .of h5, h6⟩
  refine ⟨fun Z j F1 H1 O1 e r k hj => ?_, fun Z j F1 H1 O1 x H2 d e r k hj y => ?_, fun Z F1 H1 O1 e r k => ?_, by rw [h3.len]; exact h4⟩
  · obtain ⟨ws, h5, h6⟩ := sq _ _ _ _ r k
    rw [h6.len] at hj
    exact ⟨ws, ws[j], h5, List.getElem?_eq_getElem hj⟩
  · obtain ⟨ws, h5, h6⟩ := sq _ _ _ _ r k
    obtain ⟨rfl, y⟩ := y
    obtain ⟨v, hv, hi⟩ := h6.get hj
    have q := y ws h5
    rw [hv] at q; cases q
    exact ⟨F1, r, Ext.refl, hi⟩
  · obtain ⟨ws, h5, h6⟩ := sq _ _ _ _ r k
    exact ⟨ws, h5, by rw [h6.len]; exact Nat.le_refl _⟩
theorem di_any (he : DE X F0 e te) : DI X F0 tg e (iAny te) := PI.imp (pi_all he) fun σ H R h => by
  obtain ⟨Z, ρ, O, F, Rd, at_, h, cv⟩ := h
  refine ⟨_, ρ, O, F, _, at_, h, fun d O1 F1 H1 v r1 e1 i1 h1 => ?_⟩
  cases d with
  | tup xs =>
    simp only [Is] at i1
    obtain ⟨a, vs, rfl, h2, h3, h4⟩ := i1
    exact .inr (.inl ⟨a, rfl, ⟨vs, .of (r1.sub _ _ h2)⟩, cv _ _ _ _ _ _ r1 e1 (itOk_seq h3 h4 (.inr ⟨rfl, fun Z F2 H2 O2 e r _ => .of (r.sub _ _ (e _ _ h2))⟩)) h1⟩)
  | lst xs =>
    simp only [Is] at i1
    obtain ⟨a, vs, rfl, h2, h3, h4⟩ := i1
    exact .inl ⟨a, rfl, ⟨vs, .of (r1.sub _ _ h2)⟩, cv _ _ _ _ _ _ r1 e1 (itOk_seq h3 h4 (.inl ⟨rfl, fun Z F2 H2 O2 e r _ => .of (r.sub _ _ (e _ _ h2))⟩)) h1⟩
  | fl xs =>
    simp only [Is] at i1
    obtain ⟨a, vs, rfl, h2, h3, h4⟩ := i1
    exact .inl ⟨a, rfl, ⟨vs, r1.sub.sqL h2⟩, cv _ _ _ _ _ _ r1 e1 (itOk_seq h3 h4 (.inl ⟨rfl, fun Z F2 H2 O2 e r _ => r.sub.sqL (e.sqL h2)⟩)) h1⟩
  | str cs =>
    simp only [Is] at i1
    obtain ⟨rfl, h2, h3⟩ := i1
    exact .inr (.inr (.inl ⟨_, rfl, cv _ _ _ _ _ _ r1 e1 (itOk_str h2 h3) h1⟩))
  | dic kds =>
    simp only [Is] at i1
    obtain ⟨a, o, kvs, rfl, h2, h3, h4⟩ := i1
    exact .inr (.inr (.inr ⟨a, o, kvs, rfl, r1.sub _ _ h2, cv _ _ _ _ _ _ r1 e1 (itOk_keys h2 h3 h4) h1⟩))
  | atm w =>
    cases w with
    | ref p =>
      simp only [Is] at i1
      subst i1
      simp only at h1
      split at h1
      · rename_i xs ep
        obtain ⟨_, o, h2, vs, rfl, h3, h4⟩ := r1.own p _ ep
        refine .inl ⟨p, rfl, ⟨vs, .of h2⟩, cv xs _ O1 F1 H1 _ r1 e1 (itOk_own p r1 ep) h1⟩
      · exact h1.elim
    | _ => exact h1.elim
  | _ => exact h1.elim
/-- range(n), range(a, b) -/
def rgD (lo : Int) (n : Nat) : List D := (List.range n).map fun i => .int (lo + (i : Nat))
def iRg1 (t : DTA) : DTI := fun ρ O R => t ρ O fun ds O1 => match ds with
  | [.int j] => (-1000000 ≤ j ∧ j ≤ 1000000) ∧ R (rgD 0 j.toNat) kAny O1
  | _ => False
def iRg2 (t : DTA) : DTI := fun ρ O R => t ρ O fun ds O1 => match ds with
  | [.int i, .int j] => (-1000000 ≤ i ∧ i ≤ 1000000 ∧ -1000000 ≤ j ∧ j ≤ 1000000) ∧ R (rgD i (j - i).toNat) kAny O1
  | _ => False
theorem itOk_rg {K : PySem.W.Frag} {F : Hp} {lo : Int} {n : Nat} (z : Sz n) : ItOk K F (rgD lo n) kAny (Itr lo n) := by
  have hl : (rgD lo n).length = n := by unfold rgD; rw [List.length_map, List.length_range]
  refine ⟨fun Z j F1 H1 O1 e r k hj => by rw [hl] at hj; exact hj, fun Z j F1 H1 O1 x H2 d e r k hj y => ?_, fun Z F1 H1 O1 e r k => by rw [hl]; exact Nat.le_refl _, by rw [hl]; exact z⟩
  obtain ⟨rfl, rfl⟩ := y
  have hlt : j < n := by
    have q := (List.getElem?_eq_some_iff.mp hj).1
    rw [hl] at q
    exact q
  unfold rgD at hj
  rw [List.getElem?_map, List.getElem?_range hlt] at hj
  cases hj
  exact ⟨F1, r, Ext.refl, Is.mkInt⟩
theorem di_rg1 (hg : Gl X "range") (hm : X.mg "range" = none) (ha : DA X F0 [a] t) (hs : starEach [a] X.env = [(false, eval a X.env)] := by rfl) : DI X F0 tg (.Call (.Name "range" p) [a] [] pos) (iRg1 t) := PI.imp (pi_range1 hg hm ha hs) fun σ H R h => by
  obtain ⟨Z, ρ, O, F, Rd, at_, h, cv⟩ := h
  refine ⟨_, ρ, O, F, _, at_, h, fun ds O1 F1 H1 vs r1 e1 i1 h1 => ?_⟩
  split at h1
  · obtain ⟨h2, h3⟩ := h1
    simp only [Iss, Is] at i1
    obtain ⟨v, r, rfl, rfl, rfl⟩ := i1
    rename_i j
    exact ⟨j, rfl, by omega, by omega, cv _ _ _ _ _ _ r1 e1 (itOk_rg (by show j.toNat ≤ sizeLine; rw [sizeLine_eq]; omega)) h3⟩
  · exact h1.elim
theorem di_rg2 (hg : Gl X "range") (hm : X.mg "range" = none) (ha : DA X F0 [a, b] t) (hs : starEach [a, b] X.env = [(false, eval a X.env), (false, eval b X.env)] := by rfl) (hs2 : starEach [b] X.env = [(false, eval b X.env)] := by rfl) : DI X F0 tg (.Call (.Name "range" p) [a, b] [] pos) (iRg2 t) := PI.imp (pi_range2 hg hm ha hs hs2) fun σ H R h => by
  obtain ⟨Z, ρ, O, F, Rd, at_, h, cv⟩ := h
  refine ⟨_, ρ, O, F, _, at_, h, fun ds O1 F1 H1 vs r1 e1 i1 h1 => ?_⟩
  split at h1
  · obtain ⟨⟨h2, h2', h2''⟩, h3⟩ := h1
    simp only [Iss, Is] at i1
    obtain ⟨v, r, rfl, rfl, w, r', rfl, rfl, rfl⟩ := i1
    rename_i i j
    exact ⟨i, j, rfl, ⟨by omega, by omega, by omega, by omega⟩, cv _ _ _ _ _ _ r1 e1 (itOk_rg (by show (j - i).toNat ≤ sizeLine; rw [sizeLine_eq]; omega)) h3⟩
  · exact h1.elim
end
end DS

namespace DS
open PySem PySem.Spec PyProof.Rows L2

/-! ### targets -/
abbrev DTG := D → Env' → OS → (Env' → OS → Prop) → Prop
def liftG (K : PySem.W.Frag) (F0 : Bs) (g : DTG) : TG := fun v σ H Q => ∃ Z d ρ O F Qd, At K F0 Z σ H ρ O F ∧ Is K F d v ∧ g d ρ O Qd ∧ ConvN K F0 Z F Qd Q
abbrev DG (X : Cx) (F0 : Bs) (tg : Expr) (g : DTG) : Prop := PG X tg (liftG X.K F0 g)
theorem PG.imp {X : Cx} {tg : Expr} {t t' : TG} (h : PG X tg t) (i : ∀ v σ H Q, t' v σ H Q → t v σ H Q) : PG X tg t' := ⟨fun pins s σ H v u Q I r w => h.run pins s σ H v u Q I r (i v σ H Q w)⟩
def gNm (i : Nat) : DTG := fun d ρ O Q => Q (put ρ i d) O
def puts : Env' → List Nat → List D → Env'
  | ρ, i :: is, d :: ds => puts (put ρ i d) is ds
  | ρ, _, _ => ρ
def gTp (is : List Nat) : DTG := fun d ρ O Q => match d with
  | .tup ds => ds.length = is.length ∧ Q (puts ρ is ds) O
  | _ => False
def gN : List Nat → TGs
  | [] => gNil
  | i :: is => gCons (gName i) (gN is)
theorem At.put {K : PySem.W.Frag} {F0 : Bs} {Z F H : Hp} {σ : L2.St} {ρ : Env'} {O : OS} {i : Nat} {d : D} {v : V} (a : At K F0 Z σ H ρ O F) (h : Is K F d v) : At K F0 Z (σ.set i (some v)) H (put ρ i d) O F := ⟨a.zz, a.ext, a.env.put h, a.rep⟩
section
variable {X : Cx} {F0 : Bs} {x : Str} {pos : Pos}
theorem dg_name {i : Nat} (hN : X.N.Nodup) (hi : X.N[i]? = some x) (hx : Loc X.env.scope x) (hf : X.fn x = true ∨ X.env.scope.names.lookup x = some .local := by first | exact .inl rfl | exact .inr rfl | assumption) : DG X F0 (.Name x pos) (gNm i) := PG.imp (pg_name hN hi hx hf) fun v σ H Q h => by
  obtain ⟨Z, d, ρ, O, F, Qd, at_, is, h, cv⟩ := h
  exact cv _ _ _ _ _ (at_.put is) Ext.refl h
theorem gN_of {K : PySem.W.Frag} {F0 : Bs} : ∀ {is : List Nat} {ds : List D} {vs : List V} {Z F H : Hp} {σ : L2.St} {ρ : Env'} {O : OS} {Qd : Env' → OS → Prop} {Q : L2.St → Hp → Prop}, At K F0 Z σ H ρ O F → Iss K F ds vs → ds.length = is.length → Qd (puts ρ is ds) O → ConvN K F0 Z F Qd Q → gN is vs σ H Q
  | [], [], vs, Z, F, H, σ, ρ, O, Qd, Q, a, is, _, q, cv => by
    simp only [Iss] at is
    exact ⟨is, cv _ _ _ _ _ a Ext.refl q⟩
  | [], _ :: _, _, _, _, _, _, _, _, _, _, _, _, e, _, _ => by cases e
  | _ :: _, [], _, _, _, _, _, _, _, _, _, _, _, e, _, _ => by cases e
  | i :: is, d :: ds, vs, Z, F, H, σ, ρ, O, Qd, Q, a, iss, e, q, cv => by
    simp only [Iss] at iss
    obtain ⟨v, r, rfl, h1, h2⟩ := iss
    exact ⟨v, r, rfl, gN_of (a.put h1) h2 (Nat.succ.inj e) q cv⟩
theorem dg_tup {es : List Expr} {k : Nat} {is : List Nat} (hc : X.calm = true) (h : PGs X es (gN is)) (hn : (assignEach es X.env).length = is.length := by rfl) (hst : (assignEach es X.env).findIdx? (·.1) = none := by rfl) : DG X F0 (.Tuple es k pos) (gTp is) := PG.imp (pg_tup hc h hn hst) fun v σ H Q hh => by
  obtain ⟨Z, d, ρ, O, F, Qd, at_, is', h, cv⟩ := hh
  unfold gTp at h
  split at h
  · simp only [Is] at is'
    obtain ⟨a, vs, rfl, h2, h3, h4⟩ := is'
    exact ⟨a, vs, rfl, .of (at_.rep.sub _ _ h2), by rw [← h3.len]; exact h.1, gN_of at_ h3 h.1 h.2 cv⟩
  · exact h.elim
end

/-! ### statements -/
def sNext : DTS := fun D ρ O => D.nx ρ O
def sSeq (t u : DTS) : DTS := fun D ρ O => t { D with nx := u D } ρ O
def sDrop (te : DTE) : DTS := fun D ρ O => te ρ O fun _ O1 => D.nx ρ O1
def sRet (te : DTE) : DTS := fun D ρ O => te ρ O D.rt
def sRetN : DTS := fun D _ O => D.rt .non O
def sBrk : DTS := fun D ρ O => D.bk ρ O
def sCnt : DTS := fun D ρ O => D.ct ρ O
def sIf (c : DTT) (t u : DTS) : DTS := fun D ρ O => c ρ O fun b O1 => if b = true then t D ρ O1 else u D ρ O1
def sAsg (te : DTE) (g : DTG) : DTS := fun D ρ O => te ρ O fun x O1 => g x ρ O1 D.nx
def sSet (i : Nat) (te : DTE) : DTS := fun D ρ O => te ρ O fun x O1 => D.nx (put ρ i x) O1
section
variable {X : Cx} {F0 : Bs} {st : Stmt} {rest : List Stmt} {t u : DTS} {e c : Expr} {te : DTE} {tc : DTT} {pos pos' : Pos} {a b : List Stmt} {x y : Str}
theorem dss_nil : DSs X F0 [] sNext := PSs.imp pss_nil fun D σ H h => by
  obtain ⟨Z, ρ, O, F, Dd, at_, h, cv⟩ := h
  exact cv.nx _ _ _ _ _ at_ Ext.refl h
theorem dss_cons (h1 : DSt X F0 st t) (h2 : DSs X F0 rest u) : DSs X F0 (st :: rest) (sSeq t u) := PSs.imp (pss_cons h1 h2) fun D σ H h => by
  obtain ⟨Z, ρ, O, F, Dd, at_, h, cv⟩ := h
  exact ⟨_, ρ, O, F, _, at_, h, ⟨fun ρ' O' σ' F' H' a e q => ⟨_, ρ', O', F', Dd, a, q, cv.ext e⟩, cv.rt, cv.bk, cv.ct⟩⟩
theorem dss_one (h1 : DSt X F0 st t) : DSs X F0 [st] t := pss_one h1
theorem ds_pass : DSt X F0 (.Pass pos) sNext := PS.imp ps_pass fun D σ H h => by
  obtain ⟨Z, ρ, O, F, Dd, at_, h, cv⟩ := h
  exact cv.nx _ _ _ _ _ at_ Ext.refl h
theorem ds_break : DSt X F0 (.Break pos) sBrk := PS.imp ps_break fun D σ H h => by
  obtain ⟨Z, ρ, O, F, Dd, at_, h, cv⟩ := h
  exact cv.bk _ _ _ _ _ at_ Ext.refl h
theorem ds_continue : DSt X F0 (.Continue pos) sCnt := PS.imp ps_continue fun D σ H h => by
  obtain ⟨Z, ρ, O, F, Dd, at_, h, cv⟩ := h
  exact cv.ct _ _ _ _ _ at_ Ext.refl h
theorem ds_expr (he : DE X F0 e te) (hs : swapsWith e none pos.line X.env = pure false := by rfl) : DSt X F0 (.Expr e pos) (sDrop te) := PS.imp (ps_expr he hs) fun D σ H h => by
  obtain ⟨Z, ρ, O, F, Dd, at_, h, cv⟩ := h
  exact ⟨_, ρ, O, F, _, at_, h, fun d O' F' H' v r e i q => cv.nx _ _ _ _ _ (at_.step r e) e q⟩
theorem ds_ret (he : DE X F0 e te) : DSt X F0 (.Return (some e) pos) (sRet te) := PS.imp (ps_ret he) fun D σ H h => by
  obtain ⟨Z, ρ, O, F, Dd, at_, h, cv⟩ := h
  exact ⟨_, ρ, O, F, _, at_, h, cv.rt⟩
theorem ds_retN : DSt X F0 (.Return none pos) sRetN := PS.imp ps_retN fun D σ H h => by
  obtain ⟨Z, ρ, O, F, Dd, at_, h, cv⟩ := h
  exact cv.rt _ _ _ _ _ at_.rep Ext.refl Is.mkNon h
theorem ds_if (hc : DT X F0 c tc) (ha : DSs X F0 a t) (hb : DSs X F0 b u) : DSt X F0 (.If c a b pos) (sIf tc t u) := PS.imp (ps_if hc ha hb) fun D σ H h => by
  obtain ⟨Z, ρ, O, F, Dd, at_, h, cv⟩ := h
  refine ⟨_, ρ, O, F, _, at_, h, fun k O' F' H' r e q => ?_⟩
  cases k with
  | true => exact ⟨_, ρ, O', F', Dd, at_.step r e, q, cv.ext e⟩
  | false => exact ⟨_, ρ, O', F', Dd, at_.step r e, q, cv.ext e⟩
theorem ds_asg {tg : Expr} {g : DTG} (he : DE X F0 e te) (hg : DG X F0 tg g) (hs : swapsWithSole [tg] e pos.line X.env = pure false := by rfl) (hw : swappedStores [tg] e X.env = pure none := by rfl)
    (h1 : (assignEach [tg] X.env).map (·.2) = [assign tg X.env] := by rfl) : DSt X F0 (.Assign [tg] e pos) (sAsg te g) := PS.imp (ps_asg he hg hs hw h1) fun D σ H h => by
  obtain ⟨Z, ρ, O, F, Dd, at_, h, cv⟩ := h
  exact ⟨_, ρ, O, F, _, at_, h, fun d O' F' H' v r e i q => ⟨_, d, ρ, O', F', _, at_.step r e, i, q, cv.nx.ext e⟩⟩
theorem lift_set {i : Nat} {D : Ends} {σ : L2.St} {H : Hp} (h : liftS X.K F0 (sSet i te) D σ H) : liftE X.K F0 te σ H fun x H1 => gName i x σ H1 D.nx := by
  obtain ⟨Z, ρ, O, F, Dd, at_, h, cv⟩ := h
  exact ⟨_, ρ, O, F, _, at_, h, fun d O' F' H' v r e i q => cv.nx _ _ _ _ _ ((at_.step r e).put i) e q⟩
theorem ds_set {i : Nat} (hN : X.N.Nodup) (hi : X.N[i]? = some x) (hx : Loc X.env.scope x) (he : DE X F0 e te) (hs : swapsWith e (some (.Name x pos')) pos.line X.env = pure false := by rfl) (hf : X.fn x = true ∨ X.env.scope.names.lookup x = some .local := by first | exact .inl rfl | exact .inr rfl | assumption) :
    DSt X F0 (.Assign [.Name x pos'] e pos) (sSet i te) := PS.imp (ps_set hN hi hx he hs hf) fun D σ H h => lift_set h
/-- a, b = x, y -/
def two (i j : Nat) (k : DEnds) (ρ : Env') : List D → OS → Prop := fun ds O => match ds with
  | [x, y] => k.nx (put (put ρ i x) j y) O
  | _ => False
def sPar (i j : Nat) (ta : DTA) : DTS := fun D ρ O => ta ρ O (two i j D ρ)
theorem ds_par {i j : Nat} {a b : Expr} {ta : DTA} {px py pt : Pos} {kt k2 pt2} (hc : X.calm = true) (hN : X.N.Nodup) (hi : X.N[i]? = some x) (hj : X.N[j]? = some y) (hij : i ≠ j)
    (hx : X.env.scope.names.lookup x = some .local) (hy : X.env.scope.names.lookup y = some .local) (ha : DA X F0 [a, b] ta)
    (hw : swappedStores [.Tuple [.Name x px, .Name y py] kt pt] (.Tuple [a, b] k2 pt2) X.env = pure (some [x, y]))
    (hs : swapsWithSole [.Tuple [.Name x px, .Name y py] kt pt] (.Tuple [a, b] k2 pt2) pos.line X.env = pure false := by rfl) :
    DSt X F0 (.Assign [.Tuple [.Name x px, .Name y py] kt pt] (.Tuple [a, b] k2 pt2) pos) (sPar i j ta) := PS.imp (ps_par hc hN hi hj hij hx hy ha hw hs) fun D σ H h => by
  obtain ⟨Z, ρ, O, F, Dd, at_, h, cv⟩ := h
  refine ⟨_, ρ, O, F, _, at_, h, fun ds O' F' H' vs r e is q => ?_⟩
  unfold two at q
  split at q
  · simp only [Iss] at is
    obtain ⟨v, r1, rfl, i1, w, r2, rfl, i2, rfl⟩ := is
    exact ⟨v, w, rfl, cv.nx _ _ _ _ _ (((at_.step r e).put i1).put i2) e q⟩
  · exact q.elim
/-- x += e -/
def sAug (i : Nat) (r : DR2) (te : DTE) : DTS := fun D ρ O => match nth ρ i with
  | some x => te ρ O fun y O1 => r (vw O1 x) (vw O1 y) O1 fun z O2 => D.nx (put ρ i z) O2
  | none => False
theorem ds_aug {op : Operator} {i : Nat} {r : DR2} {rH : R2} (hN : X.N.Nodup) (hi : X.N[i]? = some x) (hx : Loc X.env.scope x) (ho : OpR X (inplaceOp op) rH) (l : Lop X.K r rH) (he : DE X F0 e te) (hf : X.fn x = true ∨ X.env.scope.names.lookup x = some .local := by first | exact .inl rfl | exact .inr rfl | assumption) :
    DSt X F0 (.AugAssign (.Name x pos') op e pos) (sAug i r te) := PS.imp (ps_aug (ti := rH) hN hi hx he (fun pins s σ H x y v u Q I r1 r2 h => ho pins s σ H x y v u Q I r1 r2 h) hf) fun D σ H h => by
  obtain ⟨Z, ρ, O, F, Dd, at_, h, cv⟩ := h
  unfold sAug at h
  split at h
  · rename_i d ed
    obtain ⟨v, h1, h2⟩ := at_.env.at_ i d ed
    refine ⟨v, h1, _, ρ, O, F, _, at_, h, fun y O1 F1 H1 w r1 e1 i1 q => ?_⟩
    refine l _ _ _ _ _ _ _ _ _ _ r1 (r1.view (h2.ext e1)) (r1.view i1) q fun z O2 F2 H2 u r2 e2 i2 q2 => ?_
    exact cv.nx _ _ _ _ _ ((at_.step r2 (e1.trans e2)).put i2) (e1.trans e2) q2
  · exact h.elim
/-- o[k] = v -/
def setD (O : OS) (x y z : D) (k : OS → Prop) : Prop := match x with
  | .atm (.ref p) => (match O p with
    | some (.lst xs) => (match y with | .int i => (match ixN xs.length i with | some j => k (oput O p (.lst (xs.set j z))) | none => False) | _ => False)
    | some (.dic kds) => (match keyD y with | some kd => (kds.length < sizeLine ∧ (kds.map (·.1)).Nodup) ∧ k (oput O p (.dic (kput kds kd z))) | none => False)
    | some (.dit kds) => (match y with | .tup ys => (match keysD ys with | some kd => (kds.length < sizeLine ∧ (kds.map (·.1)).Nodup) ∧ k (oput O p (.dit (kput kds kd z))) | none => False) | _ => False)
    | _ => False)
  | _ => False
def sPut (tv to ti : DTE) : DTS := fun D ρ O => tv ρ O fun z O1 => to ρ O1 fun x O2 => ti ρ O2 fun y O3 => setD O3 x (vw O3 y) z fun O4 => D.nx ρ O4
def rSetW : V → V → V → Hp → (Hp → Prop) → Prop := fun o i v H Q => rSetL o i v H Q ∨ ∃ a H', o = .ref a ∧ DPut H a i v H' ∧ Q H'
theorem set_any (hu : X.A.units + 1 < cLine) : PSet X rSetW := by
  intro pins s σ H o i v ov iv u Q I ro ri rv h
  rcases h with h | ⟨a, H', rfl, g, q⟩
  · exact set_list pins s σ H o i v ov iv u Q I ro ri rv h
  · cases ro
    exact d_setItem hu I g ri rv fun s' I' => ⟨H', I', q⟩
theorem l_set {K : PySem.W.Frag} {Z F H : Hp} {O : OS} {x y z : D} {vx vy vz : V} {k : OS → Prop} {Q : Hp → Prop} (r : Rep K Z F H O) (ix : Is K F x vx) (iy : IsV K F H y vy) (iz : Is K F z vz) (h : setD O x y z k) (c : ∀ O' H', Rep K Z F H' O' → k O' → Q H') : rSetW vx vy vz H Q := by
  unfold setD at h
  split at h
  · rename_i p
    simp only [Is] at ix
    subst ix
    split at h
    · rename_i xs eO
      obtain ⟨_, o, h2, vs, rfl, h3, h4⟩ := r.own _ _ eO
      split at h
      · split at h
        · rename_i j ej
          rw [h3.len] at ej
          exact .inl ⟨p, vs, _, j, rfl, iy.int, h2, ej, c _ _ (r.chg eO (Own.ofLst (h3.set j iz) (by rw [List.length_set]; exact h4))) h⟩
        · exact h.elim
      · exact h.elim
    · rename_i kds eO
      obtain ⟨_, o, h2, vs, rfl, h3, h4⟩ := r.own _ _ eO
      split at h
      · rename_i kd ek
        obtain ⟨⟨hl, hn⟩, h⟩ := h
        refine .inr ⟨p, _, rfl, .inl ⟨vs, kk kd, h2, keyD_is ek iy, by rw [← h3.len]; exact hl, rfl⟩, c _ _ (r.chg eO (Own.ofDic (h3.put hn kd (keyD_ok ek iy) iz) (Nat.le_trans (length_putK _ _ _) (by rw [← h3.len]; exact hl)))) h⟩
      · exact h.elim
    · rename_i kds eO
      obtain ⟨_, o, h2, vs, rfl, h3, h4⟩ := r.own _ _ eO
      split at h
      · split at h
        · rename_i ys kd ek
          obtain ⟨⟨hl, hn⟩, h⟩ := h
          obtain ⟨b, ws, rfl, h5, h6, h7⟩ := iy
          have e := keysD_is ek h6
          subst e
          refine .inr ⟨p, _, rfl, .inr ⟨vs, kd.map kk, b, h2, rfl, r.sub _ _ h5, by rw [← h3.len]; exact hl, rfl⟩, c _ _ (r.chg eO (Own.ofDit (h3.put hn kd (keysD_ok ek h6) iz) (Nat.le_trans (length_putK _ _ _) (by rw [← h3.len]; exact hl)))) h⟩
        · exact h.elim
      · exact h.elim
    · exact h.elim
  · exact h.elim
theorem ds_put {o i v : Expr} {to ti tv : DTE} {k : Nat} (hr : Room k X.A) (hv : DE X F0 v tv) (ho : DE X F0 o to) (hi : DE X F0 i ti) (hs : swapsWithSole [.Subscript o i pos'] v pos.line X.env = pure false := by rfl) (hw : swappedStores [.Subscript o i pos'] v X.env = pure none := by rfl)
    (h1 : (assignEach [.Subscript o i pos'] X.env).map (·.2) = [assign (.Subscript o i pos') X.env] := by rfl)
    (ha : ∀ v, assign (.Subscript o i pos') X.env v = (do
      let ov ← holding [v] (eval o X.env)
      let iv ← holding [v, ov] (eval i X.env)
      standAt pos'
      holding [v, ov, iv] (setItem ov iv v)
      release [v, ov, iv] []) := by intro _; rfl) : DSt X F0 (.Assign [.Subscript o i pos'] v pos) (sPut tv to ti) := PS.imp (ps_asg hv (pg_sub ho hi (set_any (hu_of hr)) ha) hs hw h1) fun D σ H h => by
  obtain ⟨Z, ρ, O, F, Dd, at_, h, cv⟩ := h
  refine ⟨_, ρ, O, F, _, at_, h, fun z O1 F1 H1 w r1 e1 i1 q => ?_⟩
  refine ⟨_, ρ, O1, F1, _, at_.step r1 e1, q, fun x O2 F2 H2 vx r2 e2 i2 q2 => ?_⟩
  refine ⟨_, ρ, O2, F2, _, at_.step r2 (e1.trans e2), q2, fun y O3 F3 H3 vy r3 e3 i3 q3 => ?_⟩
  have ee := e1.trans (e2.trans e3)
  exact l_set r3 (i2.ext e3) (r3.view i3) (i1.ext (e2.trans e3)) q3 fun O4 H4 r4 q4 => cv.nx _ _ _ _ _ (at_.step r4 ee) ee q4

/-! ### loops -/
def sWhile (c : DTT) (tb : DTS) : DTS := fun D ρ O => ∃ W : Nat → Env' → OS → Prop, (∃ m, W m ρ O) ∧ ∀ m ρ O, W m ρ O →
  c ρ O fun b O1 => if b = true then tb { D with nx := fun ρ' O' => ∃ m', m' < m ∧ W m' ρ' O', ct := fun ρ' O' => ∃ m', m' < m ∧ W m' ρ' O', bk := D.nx } ρ O1 else D.nx ρ O1
theorem ds_while (hp : PassesOwn (model X.prog X.w) X.A X.env X.xe) (hc : DT X F0 c tc) (hb : DSs X F0 a t) : DSt X F0 (.While c a [] pos) (sWhile tc t) := PS.imp (ps_while hp hc hb) fun D σ H h => by
  obtain ⟨Z, ρ, O, F, Dd, at_, ⟨W, ⟨m0, w0⟩, step⟩, cv⟩ := h
  refine ⟨fun m σ H => ∃ ρ O F', At X.K F0 Z σ H ρ O F' ∧ Ext F F' ∧ W m ρ O, ⟨m0, ρ, O, F, at_, Ext.refl, w0⟩, ?_⟩
  rintro m σ1 H1 ⟨ρ1, O1, F1, at1, e1, w1⟩
  refine ⟨_, ρ1, O1, F1, _, at1, step m ρ1 O1 w1, fun k O2 F2 H2 r2 e2 q => ?_⟩
  cases k with
  | true =>
    refine ⟨fun σ' H' => ∃ m', m' < m ∧ ∃ ρ O F', At X.K F0 Z σ' H' ρ O F' ∧ Ext F F' ∧ W m' ρ O, fun σ' H' h => h, ?_⟩
    have nx : ConvN X.K F0 Z F2 (fun ρ' O' => ∃ m', m' < m ∧ W m' ρ' O') (fun σ' H' => ∃ m', m' < m ∧ ∃ ρ O F', At X.K F0 Z σ' H' ρ O F' ∧ Ext F F' ∧ W m' ρ O) := fun ρ' O' σ' F' H' a e ⟨m', hm, w'⟩ => ⟨m', hm, ρ', O', F', a, e1.trans (e2.trans e), w'⟩
    exact ⟨_, ρ1, O2, F2, _, at1.step r2 e2, q, ⟨nx, cv.rt.ext (e1.trans e2), cv.nx.ext (e1.trans e2), nx⟩⟩
  | false => exact cv.nx _ _ _ _ _ (at1.step r2 e2) (e1.trans e2) q
def sFor (ti : DTI) (g : DTG) (tb : DTS) : DTS := fun D ρ O => ti ρ O fun its keep O1 => ∃ W : Nat → Env' → OS → Prop, W 0 ρ O1 ∧ (∀ i ρ O, i ≤ its.length → W i ρ O → keep O) ∧
  (∀ i d ρ O, its[i]? = some d → W i ρ O → g d ρ O fun ρ2 O2 => tb { D with nx := W (i + 1), ct := W (i + 1), bk := D.nx } ρ2 O2) ∧ ∀ ρ O, W its.length ρ O → D.nx ρ O
theorem ds_for {iter tg : Expr} {ti : DTI} {g : DTG} (hp : PassesOwn (model X.prog X.w) X.A X.env X.xe) (hc : X.calm = true) (hi : DI X F0 tg iter ti) (hg : DG X F0 tg g) (hb : DSs X F0 a t) (hs : ∀ x, foldedSetIterable iter X.env x = pure x := by intro _; rfl) :
    DSt X F0 (.For tg iter a [] pos) (sFor ti g t) := PS.imp (ps_for hp hc hi hg hb hs) fun D σ H h => by
  obtain ⟨Z, ρ, O, F, Dd, at_, h, cv⟩ := h
  refine ⟨_, ρ, O, F, _, at_, h, fun its keep O1 F1 H1 J r1 e1 ok ⟨W, w0, wk, step, fin⟩ => ?_⟩
  refine ⟨fun i m σ H => i + m = its.length ∧ ∃ ρ O F', At X.K F0 Z σ H ρ O F' ∧ Ext F1 F' ∧ W i ρ O, ⟨its.length, by omega, ρ, O1, F1, at_.step r1 e1, Ext.refl, w0⟩, ?_⟩
  rintro i m σ2 H2 ⟨em, ρ2, O2, F2, at2, e2, w2⟩
  have k2 := wk i ρ2 O2 (by omega) w2
  by_cases hi : i < its.length
  · refine .inr ⟨ok.go Z i F2 H2 O2 e2 at2.rep k2 hi, fun σ' H' => ∃ ρ O F', At X.K F0 Z σ' H' ρ O F' ∧ Ext F1 F' ∧ W (i + 1) ρ O, fun σ' H' h => ⟨m - 1, by omega, by omega, h⟩, fun x H3 y => ?_⟩
    obtain ⟨F3, r3, e3, i3⟩ := ok.yld Z i F2 H2 O2 x H3 its[i] e2 at2.rep k2 (List.getElem?_eq_getElem hi) y
    refine ⟨_, its[i], ρ2, O2, F3, _, at2.step r3 e3, i3, step i its[i] ρ2 O2 (List.getElem?_eq_getElem hi) w2, fun ρ4 O4 σ4 F4 H4 a4 e4 q => ?_⟩
    have ee : Ext F1 F4 := e2.trans (e3.trans e4)
    have nx : ConvN X.K F0 Z F4 (W (i + 1)) (fun σ' H' => ∃ ρ O F', At X.K F0 Z σ' H' ρ O F' ∧ Ext F1 F' ∧ W (i + 1) ρ O) := fun ρ' O' σ' F' H' a e w' => ⟨ρ', O', F', a, ee.trans e, w'⟩
    exact ⟨_, ρ4, O4, F4, _, a4, q, ⟨nx, cv.rt.ext (e1.trans ee), cv.nx.ext (e1.trans ee), nx⟩⟩
  · have e : i = its.length := by omega
    subst e
    exact .inl ⟨ok.stop Z F2 H2 O2 e2 at2.rep k2, cv.nx _ _ _ _ _ at2 (e1.trans e2) (fin ρ2 O2 w2)⟩
end
end DS

namespace DS
open PySem PySem.Spec PyProof.Rows L2

/-! ### an object beside -/
section
variable {K : PySem.W.Frag} {Z F H : Hp} {O : OS} {p : Addr} {o o' : HO}
/-- it is neither data, nor known to change, nor hidden -/
structure Apart (Z F : Hp) (O : OS) (p : Addr) : Prop where
  z : Z p = none
  f : F p = none
  o : O p = none
theorem Rep.apart (r : Rep K Z F H O) (h : H p = none) : Apart Z F O p := by
  obtain ⟨h1, h2⟩ := r.fresh h
  refine ⟨?_, h1, h2⟩
  cases e : Z p with
  | none => rfl
  | some u => have := (r.hid p u e).1; rw [h] at this; cases this
theorem Rep.beside (r : Rep K Z F H O) (a : Apart Z F O p) : Rep K Z F (upd H p o) O := by
  refine ⟨fun b u e => ?_, fun b u e => ?_, fun b d e => ?_⟩
  · rw [upd_ne (ne_of_none e a.f)]; exact r.sub b u e
  · rw [upd_ne (ne_of_none e a.z)]; exact r.hid b u e
  · have ne : b ≠ p := fun z => by rw [z, a.o] at e; cases e
    obtain ⟨f, u, e2, w⟩ := r.own b d e
    exact ⟨f, u, by rw [upd_ne ne]; exact e2, w⟩
/-- hidden for a while -/
theorem Rep.hide (r : Rep K Z F H O) (a : Apart Z F O p) (h : H p = some o) : Rep K (upd Z p o) F H O := by
  refine ⟨r.sub, fun b u e => ?_, r.own⟩
  by_cases q : b = p
  · subst q; rw [upd_same] at e; cases e; exact ⟨h, a.f, a.o⟩
  · rw [upd_ne q] at e; exact r.hid b u e
theorem Rep.unhide (r : Rep K (upd Z p o) F H O) (z : Z p = none) : Rep K Z F H O ∧ Apart Z F O p ∧ H p = some o := by
  obtain ⟨h1, h2, h3⟩ := r.hid p o upd_same
  exact ⟨⟨r.sub, fun b u e => r.hid b u (by rw [upd_ne (ne_of_none e z)]; exact e), r.own⟩, ⟨z, h2, h3⟩, h1⟩
theorem Rep.adopt (r : Rep K Z F H O) (a : Apart Z F O p) (h : H p = some o) : Rep K Z (upd F p o) H O ∧ Ext F (upd F p o) := by
  have ex : Ext F (upd F p o) := Ext.new a.f
  refine ⟨⟨fun b u e => ?_, fun b u e => ?_, fun b d e => ?_⟩, ex⟩
  · by_cases q : b = p
    · subst q; rw [upd_same] at e; cases e; exact h
    · rw [upd_ne q] at e; exact r.sub b u e
  · have ne := ne_of_none e a.z
    rw [upd_ne ne]; exact r.hid b u e
  · have ne : b ≠ p := fun z => by rw [z, a.o] at e; cases e
    obtain ⟨f, u, e2, w⟩ := r.own b d e
    exact ⟨by rw [upd_ne ne]; exact f, u, e2, w.ext ex⟩
theorem Rep.adoptO {d : D} (r : Rep K Z F H O) (a : Apart Z F O p) (h : H p = some o) (w : Own K F d o) : Rep K Z F H (oput O p d) := by
  refine ⟨r.sub, fun b u e => ?_, fun b d' e => ?_⟩
  · have ne := ne_of_none e a.z
    rw [oput_ne ne]; exact r.hid b u e
  · by_cases q : b = p
    · subst q; rw [oput_same] at e; cases e; exact ⟨a.f, o, h, w⟩
    · rw [oput_ne q] at e; exact r.own b d' e
end

/-! ### slots of a block -/
def setsV : L2.St → List Nat → List V → L2.St
  | σ, i :: is, v :: vs => setsV (σ.set i (some v)) is vs
  | σ, _, _ => σ
theorem gN_eq : ∀ {is : List Nat} {vs : List V} {σ : L2.St} {H : Hp} {Q : L2.St → Hp → Prop}, vs.length = is.length → Q (setsV σ is vs) H → gN is vs σ H Q
  | [], [], _, _, _, _, q => ⟨rfl, q⟩
  | [], _ :: _, _, _, _, e, _ => by cases e
  | _ :: _, [], _, _, _, e, _ => by cases e
  | i :: is, v :: vs, σ, H, Q, e, q => ⟨v, vs, rfl, gN_eq (Nat.succ.inj e) q⟩
theorem repE_sets {K : PySem.W.Frag} {F : Hp} : ∀ {is : List Nat} {ds : List D} {vs : List V} {σ : L2.St} {ρ : Env'}, RepE K F σ ρ → Iss K F ds vs → RepE K F (setsV σ is vs) (puts ρ is ds)
  | [], _, _, σ, ρ, r, _ => r
  | i :: is, [], _, σ, ρ, r, h => by simp only [Iss] at h; subst h; exact r
  | i :: is, d :: ds, _, σ, ρ, r, h => by
    simp only [Iss] at h
    obtain ⟨v, t, rfl, h1, h2⟩ := h
    show RepE K F (setsV (σ.set i (some v)) is t) (puts (put ρ i d) is ds)
    exact repE_sets (r.put h1) h2
theorem wipe_get (σ : L2.St) : ∀ (vs : List Nat) (j : Nat), (wipe σ vs)[j]? = if j ∈ vs then (if j < σ.length then some none else none) else σ[j]?
  | [], j => by simp [wipe]
  | v :: vs, j => by
    unfold wipe
    by_cases e : v = j
    · subst e
      rw [List.getElem?_set_self']
      simp only [List.mem_cons, true_or, if_true]
      by_cases h : v < σ.length
      · rw [if_pos h]
        have : v < (wipe σ vs).length := by rw [wipe_length]; exact h
        rw [List.getElem?_eq_getElem this]; rfl
      · rw [if_neg h]
        have : ¬ v < (wipe σ vs).length := by rw [wipe_length]; exact h
        rw [List.getElem?_eq_none (by omega)]; rfl
    · rw [List.getElem?_set_ne e, wipe_get σ vs j]
      have e2 : j ≠ v := fun z => e z.symm
      simp only [List.mem_cons, e2, false_or]
theorem wipe_set {σ : L2.St} {i : Nat} {v : Option V} {vs : List Nat} (h : i ∈ vs) : wipe (σ.set i v) vs = wipe σ vs := by
  apply List.ext_getElem?
  intro j
  rw [wipe_get, wipe_get, List.length_set]
  by_cases hj : j ∈ vs
  · rw [if_pos hj, if_pos hj]
  · rw [if_neg hj, if_neg hj, List.getElem?_set_ne]
    rintro rfl; exact hj h
theorem wipe_wipe {σ : L2.St} {vs : List Nat} : wipe (wipe σ vs) vs = wipe σ vs := by
  apply List.ext_getElem?
  intro j
  rw [wipe_get, wipe_get, wipe_length]
  by_cases hj : j ∈ vs
  · rw [if_pos hj, if_pos hj]
  · rw [if_neg hj, if_neg hj]
theorem wipe_sets : ∀ {is : List Nat} {us : List V} {σ : L2.St} {vs : List Nat}, (∀ i ∈ is, i ∈ vs) → wipe (setsV σ is us) vs = wipe σ vs
  | [], _, σ, vs, _ => rfl
  | i :: is, [], σ, vs, _ => rfl
  | i :: is, u :: us, σ, vs, h => by
    show wipe (setsV (σ.set i (some u)) is us) vs = _
    rw [wipe_sets (fun j hj => h j (List.mem_cons_of_mem _ hj)), wipe_set (h i List.mem_cons_self)]

/-! ### comprehensions -/
/-- how an item goes to the target: the slots of a tuple's names, or one slot -/
inductive Tgt where
  | one (i : Nat) | many (is : List Nat)
def Tgt.ok : Tgt → List Nat → Prop
  | .one i, vs => i ∈ vs
  | .many is, vs => ∀ i ∈ is, i ∈ vs
def Tgt.g (K : PySem.W.Frag) : Tgt → TG
  | .one i => gName i
  | .many is => gTup K is.length (gN is)
def Tgt.to : Tgt → D → Env' → (Env' → Prop) → Prop
  | .one i, d, ρ, k => k (put ρ i d)
  | .many is, .tup ds, ρ, k => ds.length = is.length ∧ k (puts ρ is ds)
  | .many _, _, _, _ => False
theorem Tgt.run {K : PySem.W.Frag} {Z F H : Hp} {O : OS} {σ : L2.St} {ρ : Env'} {vs : List Nat} {d : D} {x : V} {k : Env' → Prop} {Q : L2.St → Hp → Prop} : ∀ {t : Tgt}, t.ok vs → RepE K F σ ρ → Rep K Z F H O → Is K F d x → t.to d (blank ρ vs) k →
    (∀ σ2 ρ2, wipe σ2 vs = wipe σ vs → RepE K F σ2 ρ2 → k ρ2 → Q σ2 H) → t.g K x (wipe σ vs) H Q
  | .one i, hok, re, _, is, h, c => c _ _ (by rw [wipe_set hok, wipe_wipe]) ((re.blank vs).put is) h
  | .many is, hok, re, r, i, h, c => by
    cases d with
    | tup ds =>
      obtain ⟨h1, h2⟩ := h
      simp only [Is] at i
      obtain ⟨a, us, rfl, h3, h4, h5⟩ := i
      refine ⟨a, us, rfl, .of (r.sub _ _ h3), by rw [← h4.len]; exact h1, gN_eq (by rw [← h4.len]; exact h1) ?_⟩
      exact c _ _ (by rw [wipe_sets hok, wipe_wipe]) (repE_sets (re.blank vs) h4) h2
    | _ => exact h.elim
def dLcW (ti : DTI) (tg : Tgt) (vs : List Nat) (tt : DTT) (te : DTE) (fin : List D → OS → DQ → Prop) : DTE := fun ρ O Q => ti ρ O fun its keep O1 => ∃ W : Nat → List D → OS → Prop, W 0 [] O1 ∧ (∀ i acc O, i ≤ its.length → W i acc O → keep O) ∧
  (∀ i d acc O, its[i]? = some d → W i acc O → tg.to d (blank ρ vs) fun ρ2 => tt ρ2 O fun b O2 => if b = true then te ρ2 O2 fun y O3 => W (i + 1) (acc ++ [y]) O3 else W (i + 1) acc O2) ∧ ∀ acc O, W its.length acc O → fin acc O Q
def asData : List D → OS → DQ → Prop := fun acc O Q => Q (.lst acc) O
def asOwn : List D → OS → DQ → Prop := fun acc O Q => ∀ p, O p = none → Q (.atm (.ref p)) (oput O p (.lst acc))
abbrev dLc (ti : DTI) (tg : Tgt) (vs : List Nat) (tt : DTT) (te : DTE) : DTE := dLcW ti tg vs tt te asData
abbrev dLcM (ti : DTI) (tg : Tgt) (vs : List Nat) (tt : DTT) (te : DTE) : DTE := dLcW ti tg vs tt te asOwn
def exE (K : PySem.W.Frag) (t : DTE) : TE := fun σ H Q => ∃ B, liftE K B t σ H Q
def exT (K : PySem.W.Frag) (t : DTT) : TT := fun σ H Q => ∃ B, liftT K B t σ H Q
theorem pe_ex {X : Cx} {e : Expr} {t : DTE} (h : ∀ B, DE X B e t) : PE X e (exE X.K t) := ⟨fun pins s σ H Q I ⟨B, w⟩ => (h B).run pins s σ H Q I w⟩
theorem pts_ex {X : Cx} {es : List Expr} {t : DTT} (h : ∀ B, PTs X es (liftT X.K B t)) : PTs X es (exT X.K t) := ⟨fun pins s σ H Q I ⟨B, w⟩ => (h B).run pins s σ H Q I w⟩
def FinOk (fin : List D → OS → DQ → Prop) : Prop := ∀ (K : PySem.W.Frag) (Z F H : Hp) (O : OS) (p : Addr) (acc : List D) (vs : List V) (Qd : DQ) (Q : VK), Rep K Z F H O → Apart Z F O p → H p = some (.lst vs) → Iss K F acc vs → Sz vs.length → fin acc O Qd → Conv K Z F Qd Q → Q (.ref p) H
theorem fin_data : FinOk asData := fun K Z F H O p acc vs Qd Q r a h i z f c => by
  obtain ⟨r2, e2⟩ := r.adopt a h
  exact c _ _ _ _ _ r2 e2 (Is.mkLst upd_same (i.ext e2) z) f
theorem fin_own : FinOk asOwn := fun K Z F H O p acc vs Qd Q r a h i z f c => c _ _ _ _ _ (r.adoptO a h (Own.ofLst i z)) Ext.refl Is.mkAtm (f p a.o)
section
variable {X : Cx} {F0 : Bs} {ti : DTI} {tg : Tgt} {vs : List Nat} {tt : DTT} {te : DTE} {fin : List D → OS → DQ → Prop}
theorem lift_lc (hf : FinOk fin) (hok : tg.ok vs) {σ : L2.St} {H : Hp} {Q : VK} (h : liftE X.K F0 (dLcW ti tg vs tt te fin) σ H Q) : tLc (liftI X.K F0 ti) (tg.g X.K) (exT X.K tt) (exE X.K te) vs σ H Q := by
  obtain ⟨Z, ρ, O, F, Qd, at_, h, cv⟩ := h
  refine ⟨_, ρ, O, F, _, at_, h, fun its keep O1 F1 H1 J r1 e1 ok ⟨W, w0, wk, step, fi⟩ D hD => ?_⟩
  have a1 := r1.apart hD
  have env1 : RepE X.K F1 σ ρ := at_.env.ext e1
  refine ⟨fun i m H => i + m = its.length ∧ ∃ acc vacc O F', Rep X.K Z F' H O ∧ Ext F1 F' ∧ Apart Z F' O D ∧ H D = some (.lst vacc) ∧ Iss X.K F' acc vacc ∧ vacc.length ≤ i ∧ W i acc O,
    ⟨its.length, by omega, [], [], O1, F1, r1.beside a1, Ext.refl, a1, upd_same, Iss.nil, Nat.zero_le _, w0⟩, ?_⟩
  rintro i m H2 ⟨em, acc, vacc, O2, F2, r2, e2, a2, h2, i2, l2, w2⟩
  have rh := r2.hide a2 h2
  have k2 := wk i acc O2 (by omega) w2
  by_cases hi : i < its.length
  · refine .inr ⟨ok.go _ i F2 H2 O2 e2 rh k2 hi, fun H' => ∃ acc vacc O F', Rep X.K Z F' H' O ∧ Ext F1 F' ∧ Apart Z F' O D ∧ H' D = some (.lst vacc) ∧ Iss X.K F' acc vacc ∧ vacc.length ≤ i + 1 ∧ W (i + 1) acc O, fun H' h => ⟨m - 1, by omega, by omega, h⟩, fun x H3 y => ?_⟩
    obtain ⟨F3, r3, e3, i3⟩ := ok.yld _ i F2 H2 O2 x H3 its[i] e2 rh k2 (List.getElem?_eq_getElem hi) y
    refine Tgt.run hok (env1.ext (e2.trans e3)) r3 i3 (step i its[i] acc O2 (List.getElem?_eq_getElem hi) w2) fun σ4 ρ4 hw re4 q4 => ⟨hw, (F3, upd Z D (.lst vacc)), _, ρ4, O2, F3, _, ⟨rfl, Ext.refl, re4, r3⟩, q4, fun b O5 F5 H5 r5 e5 q5 => ?_⟩
    have hsz : vacc.length < sizeLine := Nat.lt_of_le_of_lt l2 (Nat.lt_of_lt_of_le hi ok.sz)
    cases b with
    | true =>
      refine ⟨(F5, upd Z D (.lst vacc)), _, ρ4, O5, F5, _, ⟨rfl, Ext.refl, re4.ext e5, r5⟩, q5, fun dy O6 F6 H6 v r6 e6 i6 q6 => ?_⟩
      obtain ⟨r7, a7, h7⟩ := r6.unhide a1.z
      have ee : Ext F2 F6 := e3.trans (e5.trans e6)
      exact ⟨vacc, h7, hsz, acc ++ [dy], vacc ++ [v], O6, F6, r7.beside a7, e2.trans ee, a7, upd_same, (i2.ext ee).app (Iss.cons i6 Iss.nil), by rw [List.length_append]; exact Nat.add_le_add_right l2 1, q6⟩
    | false =>
      obtain ⟨r7, a7, h7⟩ := r5.unhide a1.z
      have ee : Ext F2 F5 := e3.trans e5
      exact ⟨acc, vacc, O5, F5, r7, e2.trans ee, a7, h7, i2.ext ee, Nat.le_succ_of_le l2, q5⟩
  · have e : i = its.length := by omega
    subst e
    exact .inl ⟨ok.stop _ F2 H2 O2 e2 rh k2, hf _ _ _ _ _ _ _ _ _ _ r2 a2 h2 i2 (Nat.le_trans l2 ok.sz) (fi acc O2 w2) (cv.ext (e1.trans e2))⟩
end
def tYesD : DTT := fun _ O Q => Q true O
section
variable {X : Cx} {F0 : Bs} {elt tg iter : Expr} {ifs : List Expr} {scope : Scope} {own : List (Str × Nat)} {pos spos py : Pos} {ti : DTI} {tgt : Tgt} {tt : DTT} {te : DTE} {fin : List D → OS → DQ → Prop} {y : Str}
theorem dts_nil {B : Bs} : PTs X [] (liftT X.K B tYesD) := ⟨fun pins s σ H Q I h => pts_nil.run pins s σ H Q I (by
  obtain ⟨Z, ρ, O, F, Qd, at_, h, cv⟩ := h
  exact cv _ _ _ _ at_.rep Ext.refl h)⟩
theorem dts_one {B : Bs} {c : Expr} (h : DT X B c tt) : PTs X [c] (liftT X.K B tt) := pts_one h
theorem de_lc (hf : FinOk fin) (hc : X.calm = true) (hN : X.N.Nodup) (hi : DI X F0 tg iter ti) (ok : BlkOk X.N X.env.scope scope own) (hok : tgt.ok (own.map (·.2)))
    (hg : ∀ (s : Shared) (H : Hp) (C : Addr) (cl : List (Str × Addr)) (fp : List Addr), PG (X.blk s H scope (compEnvC scope cl C X.env) fp) tg (tgt.g X.K)) (ht : ∀ (s : Shared) (H : Hp) (C : Addr) (cl : List (Str × Addr)) (fp : List Addr) (B : Bs), PTs (X.blk s H scope (compEnvC scope cl C X.env) fp) ifs (liftT X.K B tt))
    (he : ∀ (s : Shared) (H : Hp) (C : Addr) (cl : List (Str × Addr)) (fp : List Addr) (B : Bs), DE (X.blk s H scope (compEnvC scope cl C X.env) fp) B elt te) (hs : ∀ x, foldedSetIterable iter X.env x = pure x := by intro _; rfl) :
    DE X F0 (.ListComp elt [⟨tg, iter, ifs, 0⟩] scope pos) (dLcW ti tgt (own.map (·.2)) tt te fin) :=
  PE.imp (pe_lc hc hN hi ok hg (fun s H C cl fp => pts_ex (ht s H C cl fp)) (fun s H C cl fp => pe_ex (he s H C cl fp)) hs) fun _ _ _ h => lift_lc hf hok h
theorem ds_setLc {i : Nat} (hf : FinOk fin) (hc : X.calm = true) (hN : X.N.Nodup) (hy : X.N[i]? = some y) (hyl : X.env.scope.names.lookup y = some .local)
    (hsw : swapsWith (.ListComp elt [⟨tg, iter, ifs, 0⟩] scope pos) (some (.Name y py)) spos.line X.env = pure true) (hi : DI X F0 tg iter ti) (ok : BlkOk X.N X.env.scope scope own) (hok : tgt.ok (own.map (·.2)))
    (hg : ∀ (s : Shared) (H : Hp) (C : Addr) (cl : List (Str × Addr)) (fp : List Addr), PG (X.blk s H scope (compEnvC scope cl C X.env) fp) tg (tgt.g X.K)) (ht : ∀ (s : Shared) (H : Hp) (C : Addr) (cl : List (Str × Addr)) (fp : List Addr) (B : Bs), PTs (X.blk s H scope (compEnvC scope cl C X.env) fp) ifs (liftT X.K B tt))
    (he : ∀ (s : Shared) (H : Hp) (C : Addr) (cl : List (Str × Addr)) (fp : List Addr) (B : Bs), DE (X.blk s H scope (compEnvC scope cl C X.env) fp) B elt te) (hs : ∀ x, foldedSetIterable iter X.env x = pure x := by intro _; rfl) :
    DSt X F0 (.Assign [.Name y py] (.ListComp elt [⟨tg, iter, ifs, 0⟩] scope pos) spos) (sSet i (dLcW ti tgt (own.map (·.2)) tt te fin)) :=
  PS.imp (ps_setLc hc hN hy hyl hsw hi ok hg (fun s H C cl fp => pts_ex (ht s H C cl fp)) (fun s H C cl fp => pe_ex (he s H C cl fp)) hs) fun D σ H h => lift_lc hf hok (lift_set h)
end
end DS

namespace DS
open PySem PySem.Spec PyProof.Rows L2

/-! ### from now on it stays as it is -/
def frzQ (d : D) (O : OS) (Q : DQ) : Prop := match d with
  | .atm (.ref p) => (match O p with | some c => Q c (odel O p) | none => Q d O)
  | _ => Q d O
def dFrz (te : DTE) : DTE := fun ρ O Q => te ρ O fun d O1 => frzQ d O1 Q
def tFz (t : TE) : TE := fun σ H Q => t σ H fun v H1 => Q v H1 ∨ ∃ p u, v = .ref p ∧ H1 p = some u ∧ Mut (some u) ∧ ∀ od, Q v (upd H1 p (.frz od u))
section
variable {X : Cx} {F0 : Bs} {e : Expr} {te : DTE}
theorem pe_fz {t : TE} (h : PE X e t) : PE X e (tFz t) := ⟨fun pins s σ H Q I w => thn (h.run pins s σ H _ I w) fun u s1 ⟨v, H1, I1, r1, q⟩ => by
  rcases q with q | ⟨p, c, rfl, hp, mu, q⟩
  · exact ⟨v, H1, I1, r1, q⟩
  · obtain ⟨od, I2⟩ := I1.lock hp mu
    exact ⟨.ref p, _, I2, r1, q od⟩⟩
/-- the dict at p is locked for ever -/
theorem Rep.frzLock {K : PySem.W.Frag} {Z F H : Hp} {O : OS} {p : Addr} {d : D} {o : HO} {od : Obj} (r : Rep K Z F H O) (h : O p = some d) (e : H p = some o) : Rep K Z (upd F p (.frz od o)) (upd H p (.frz od o)) (odel O p) ∧ Ext F (upd F p (.frz od o)) := by
  obtain ⟨hF, u0, e0, _⟩ := r.own p d h
  have ex : Ext F (upd F p (.frz od o)) := Ext.new hF
  refine ⟨⟨fun a u q => ?_, fun a u q => ?_, fun a d' q => ?_⟩, ex⟩
  · by_cases z : a = p
    · subst z; rw [upd_same] at q ⊢; exact q
    · rw [upd_ne z] at q ⊢; exact r.sub a u q
  · have ne := r.hidNeO h q
    obtain ⟨q1, q2, q3⟩ := r.hid a u q
    refine ⟨by rw [upd_ne ne]; exact q1, by rw [upd_ne ne]; exact q2, ?_⟩
    unfold odel; rw [if_neg ne]; exact q3
  · have z : a ≠ p := fun z => by rw [z] at q; unfold odel at q; rw [if_pos rfl] at q; cases q
    unfold odel at q
    rw [if_neg z] at q
    obtain ⟨f, u, e2, w⟩ := r.own a d' q
    exact ⟨by rw [upd_ne z]; exact f, u, by rw [upd_ne z]; exact e2, w.ext ex⟩
/-- what is owned, as data: either as it stands, or behind a lock -/
theorem Rep.frzAny {K : PySem.W.Frag} {Z F H : Hp} {O : OS} {p : Addr} {c : D} (r : Rep K Z F H O) (h : O p = some c) :
    (∃ F', Rep K Z F' H (odel O p) ∧ Ext F F' ∧ Is K F' c (.ref p)) ∨ ∃ u, H p = some u ∧ Mut (some u) ∧ ∀ od, ∃ F', Rep K Z F' (upd H p (.frz od u)) (odel O p) ∧ Ext F F' ∧ Is K F' c (.ref p) := by
  obtain ⟨hF, o, e, w⟩ := r.own p c h
  cases c with
  | lst ds =>
    obtain ⟨vs, rfl, h1, h2⟩ := w
    obtain ⟨r2, e2⟩ := r.frz h e
    exact .inl ⟨_, r2, e2, Is.mkLst upd_same (h1.ext e2) h2⟩
  | dic ds =>
    obtain ⟨kvs, rfl, h1, h2⟩ := w
    refine .inr ⟨_, e, trivial, fun od => ?_⟩
    obtain ⟨r2, e2⟩ := r.frzLock (od := od) h e
    exact ⟨_, r2, e2, by simp only [Is]; exact ⟨p, od, kvs, rfl, upd_same, h1.ext e2, h2⟩⟩
  | dit ds =>
    obtain ⟨kvs, rfl, h1, h2⟩ := w
    refine .inr ⟨_, e, trivial, fun od => ?_⟩
    obtain ⟨r2, e2⟩ := r.frzLock (od := od) h e
    exact ⟨_, r2, e2, by simp only [Is]; exact ⟨p, od, kvs, rfl, upd_same, h1.ext e2, h2⟩⟩
  | obj C fs =>
    obtain ⟨dx, fvs, rfl, h1⟩ := w
    obtain ⟨r2, e2⟩ := r.frz h e
    exact .inl ⟨_, r2, e2, by simp only [Is]; exact ⟨p, dx, fvs, rfl, upd_same, h1.ext e2⟩⟩
  | tab q =>
    obtain ⟨ps, rfl, h1⟩ := w
    obtain ⟨r2, e2⟩ := r.frz h e
    exact .inl ⟨_, r2, e2, by simp only [Is]; exact ⟨p, ps, rfl, upd_same⟩⟩
  | _ => exact w.elim
theorem de_frz (h : DE X F0 e te) : DE X F0 e (dFrz te) := PE.imp (pe_fz h) fun σ H Q h => by
  obtain ⟨Z, ρ, O, F, Qd, at_, h, cv⟩ := h
  refine ⟨_, ρ, O, F, _, at_, h, fun d O1 F1 H1 v r1 e1 i1 q => ?_⟩
  unfold frzQ at q
  split at q
  · rename_i p
    simp only [Is] at i1
    subst i1
    split at q
    · rename_i c ec
      rcases r1.frzAny ec with ⟨F2, r2, e2, i2⟩ | ⟨u, h1, h2, h3⟩
      · exact .inl (cv _ _ _ _ _ r2 (e1.trans e2) i2 q)
      · refine .inr ⟨p, u, rfl, h1, h2, fun od => ?_⟩
        obtain ⟨F2, r2, e2, i2⟩ := h3 od
        exact cv _ _ _ _ _ r2 (e1.trans e2) i2 q
    · exact .inl (cv _ _ _ _ _ r1 e1 Is.mkAtm q)
  · exact .inl (cv _ _ _ _ _ r1 e1 i1 q)
end
/-- the object in slot i, ahead of the rest of a block -/
def sFrz (i : Nat) (u : DTS) : DTS := fun D ρ O => match nth ρ i with
  | some (.atm (.ref p)) => (match O p with | some c => u D (put ρ i c) (odel O p) | none => False)
  | _ => False
section
variable {X : Cx} {F0 : Bs} {st : List Stmt} {u : DTS}
theorem set_same {σ : L2.St} {i : Nat} {v : V} (h : σ[i]? = some (some v)) : σ.set i (some v) = σ := by
  apply List.ext_getElem?
  intro j
  by_cases e : i = j
  · subst e
    have := (List.getElem?_eq_some_iff.mp h).1
    rw [List.getElem?_set_self this, h]
  · rw [List.getElem?_set_ne e]
theorem dss_frz (i : Nat) (h : DSs X F0 st u) : DSs X F0 st (sFrz i u) := by
  refine ⟨fun pins s σ H D I w => ?_⟩
  obtain ⟨Z, ρ, O, F, Dd, at_, w, cv⟩ := w
  unfold sFrz at w
  split at w
  · rename_i p ep
    split at w
    · rename_i c ec
      obtain ⟨v, h1, h2⟩ := at_.env.at_ i _ ep
      simp only [Is] at h2
      subst h2
      rcases at_.rep.frzAny ec with ⟨F2, r2, e2, i2⟩ | ⟨o, h3, h4, h5⟩
      · have a2 := (at_.step r2 e2).put (i := i) i2
        rw [set_same h1] at a2
        exact h.run pins s σ H D I ⟨_, _, _, F2, Dd, a2, w, cv.ext e2⟩
      · obtain ⟨od, I2⟩ := I.lock h3 h4
        obtain ⟨F2, r2, e2, i2⟩ := h5 od
        have a2 := (at_.step r2 e2).put (i := i) i2
        rw [set_same h1] at a2
        exact h.run pins s σ _ D I2 ⟨_, _, _, F2, Dd, a2, w, cv.ext e2⟩
    · exact w.elim
  · exact w.elim
end

/-! ### exceptions -/
def sRaise (x : DX) (W : DWX) : DTS := fun _ ρ O => W x ρ O
section
variable {X : Cx} {F0 : Bs} {W Wout : DWX} {e : Expr} {pos np pos' : Pos} {C : Addr} {x : Str} {c : Value} {body suite : List Stmt} {b₀ : Stmt} {tb : DWX → DTS} {ts : DTS}
theorem ds_raise (hc : X.calm = true) (tk : Takes X (liftW X.K F0 W)) (mk : PMk X e (fun _ H Q => Q (.ref C) none H)) : DSt X F0 (.Raise (some e) none pos) (sRaise (.pl (.ref C)) W) := PS.imp (ps_raise hc tk mk) fun D σ H h => by
  obtain ⟨Z, ρ, O, F, Dd, at_, h, cv⟩ := h
  exact ⟨Z, ρ, O, F, _, at_, (show IsX X.K F (.pl (.ref C)) (.ref C) none from ⟨rfl, rfl⟩), h⟩
theorem ConvS.base {K : PySem.W.Frag} {Z F : Hp} {Dd : DEnds} {Dh : Ends} (c : ConvS K F0 Z F Dd Dh) (e : Ext F0.1 F) (z : Z = F0.2) : ConvS K (F, Z) Z F Dd Dh :=
  ⟨fun ρ' O' σ' F' H' a x q => c.nx ρ' O' σ' F' H' ⟨z, e.trans a.ext, a.env, a.rep⟩ x q, c.rt, fun ρ' O' σ' F' H' a x q => c.bk ρ' O' σ' F' H' ⟨z, e.trans a.ext, a.env, a.rep⟩ x q, fun ρ' O' σ' F' H' a x q => c.ct ρ' O' σ' F' H' ⟨z, e.trans a.ext, a.env, a.rep⟩ x q⟩
/-- try: body, except x: suite; ex tells of an exception whether it is caught -/
def sTry (ex : DX → Option Bool) (Wout : DWX) (tb : DWX → DTS) (ts : DTS) : DTS := fun D ρ O => tb (fun x ρ' O' => match ex x with
  | some true => ts D ρ' O'
  | some false => Wout x ρ' O'
  | none => False) D ρ O
theorem ds_try (ex : DX → Option Bool) (hs : X.stack = X.env :: X.outer) (hf : X.env.frame = some X.env.locals) (hc : Names X x c) (hex : ∀ x b, ex x = some b → PySem.W.exmOne X.K x.cls c = some b) (tk : Takes X (liftW X.K F0 Wout))
    (hb : ∀ (W : DWX) (B : Bs) (pn : List (Addr × Obj)) (xe : Value → Shared → Prop), Takes (X.tr pn xe) (liftW X.K B W) → PassesOwn (model X.prog X.w) X.A X.env xe → DSs (X.tr pn xe) B body (tb W))
    (hsu : ∀ (a : Addr) (oe : Obj) (cls : Value) (d : Option Addr) (pn : List (Addr × Obj)), Zc cls d oe → (∃ vs, oe.data = .fields vs) → DSs (X.suite a ((a, oe) :: pn)) F0 (b₀ :: suite) ts) :
    DSt X F0 (.Try body [.ExceptHandler (some (.Name x np)) none (b₀ :: suite) pos'] [] [] pos) (sTry ex Wout tb ts) := by
  refine PS.imp (ps_try_only (tb := fun W D σ H => ∃ B Wd, (∀ c d σ H, liftW X.K B Wd c d σ H → W c d σ H) ∧ liftS X.K B (tb Wd) D σ H) (ts := fun _ _ _ => liftS X.K F0 ts) hs hf hc tk
    (fun W pn xe tk' hp => ⟨fun pins s σ H D I ⟨B, Wd, i, w⟩ => (hb Wd B pn xe (tk'.imp i) hp).run pins s σ H D I w⟩) hsu) fun D σ H h => ?_
  obtain ⟨Z, ρ, O, F, Dd, at_, h, cv⟩ := h
  refine ⟨(F, Z), _, fun c' d σ' H' q => ?_, _, ρ, O, F, Dd, ⟨rfl, Ext.refl, at_.env, at_.rep⟩, h, cv.base at_.ext at_.zz⟩
  obtain ⟨Z', ρ', O', F', x', a', ix, q⟩ := q
  have hcl := ix.cls
  subst hcl
  have ez : Z' = Z := a'.zz
  subst ez
  have a2 : At X.K F0 Z' σ' H' ρ' O' F' := ⟨at_.zz, at_.ext.trans a'.ext, a'.env, a'.rep⟩
  split at q
  · rename_i eb
    exact ⟨true, hex _ _ eb, fun _ a ha => ⟨_, ρ', O', F', Dd, a2, q, cv.ext a'.ext⟩, fun z => by cases z⟩
  · rename_i eb
    exact ⟨false, hex _ _ eb, fun z => (by cases z), fun _ => ⟨_, ρ', O', F', x', a2, ix, q⟩⟩
  · exact q.elim
end

/-! ### f-strings -/
def dFmt (te : DTE) : DTE := fun ρ O Q => te ρ O fun d O1 => match d with
  | .str y => Q (.str y) O1
  | .int i => (i.natAbs.log2 < 1920 ∧ Sz (cd (Str.ofString (toString i))).length) ∧ Q (.str (cd (Str.ofString (toString i)))) O1
  | _ => False
def dJs : List DTE → List Nat → Env' → OS → (List Nat → OS → Prop) → Prop
  | [], acc, _, O, Q => Q acc O
  | t :: ts, acc, ρ, O, Q => t ρ O fun d O1 => match d with
    | .str y => Sz (acc.length + y.length) ∧ dJs ts (acc ++ y) ρ O1 Q
    | _ => False
inductive DJ (X : Cx) (F0 : Bs) : List Expr → List DTE → Prop where
  | nil : DJ X F0 [] []
  | cons {e : Expr} {t : DTE} {es : List Expr} {ts : List DTE} (h : DE X F0 e t) (r : DJ X F0 es ts) : DJ X F0 (e :: es) (t :: ts)
section
variable {X : Cx} {F0 : Bs} {e : Expr} {te : DTE} {pos : Pos}
theorem cok_of (s : String) : Cok (cd (Str.ofString s)) := fun c hc => by
  rw [Str.ofString_eq_toList] at hc
  simp only [cd, List.mem_map] at hc
  obtain ⟨ch, _, rfl⟩ := hc
  have h := ch.valid
  have e : ch.toNat = ch.val.toNat := rfl
  simp only [UInt32.isValidChar, Nat.isValidChar] at h
  omega
theorem de_fmt (he : DE X F0 e te) : DE X F0 (.FormattedValue e (-1) none pos) (dFmt te) := PE.imp (pe_fmt he) fun σ H Q h => by
  obtain ⟨Z, ρ, O, F, Qd, at_, h, cv⟩ := h
  refine ⟨_, ρ, O, F, _, at_, h, fun d O1 F1 H1 v r1 e1 i1 q => ?_⟩
  cases d with
  | str y =>
    simp only [Is] at i1
    obtain ⟨rfl, z, c⟩ := i1
    exact .inl ⟨_, rfl, by rw [tx_len]; exact z, cv _ _ _ _ _ r1 e1 (Is.mkStr z c) q⟩
  | int i =>
    simp only [Is] at i1
    subst i1
    refine .inr ⟨i, rfl, q.1.1, ?_⟩
    have := cv _ _ _ _ _ r1 e1 (Is.mkStr q.1.2 (cok_of _)) q.2
    rw [tx_cd] at this
    exact this
  | _ => exact q.elim
theorem pj_of {es : List Expr} {ts : List DTE} (h : DJ X F0 es ts) : PJ X es (ts.map (liftE X.K F0)) := by
  induction h with
  | nil => exact .nil
  | cons h r ih => exact .cons h ih
theorem js_of {K : PySem.W.Frag} : ∀ {ts : List DTE} {acc : List Nat} {ρ : Env'} {O : OS} {Qd : List Nat → OS → Prop} {Z F H : Hp} {σ : L2.St} {Q : Str → Hp → Prop}, At K F0 Z σ H ρ O F → Sz acc.length → Cok acc → dJs ts acc ρ O Qd →
    (∀ out O' F' H', Rep K Z F' H' O' → Ext F F' → Sz out.length → Cok out → Qd out O' → Q (tx out) H') → tJs (ts.map (liftE K F0)) (tx acc) σ H Q
  | [], acc, ρ, O, Qd, Z, F, H, σ, Q, a, z, c, h, cv => cv _ _ _ _ a.rep Ext.refl z c h
  | t :: ts, acc, ρ, O, Qd, Z, F, H, σ, Q, a, z, c, h, cv => by
    refine ⟨_, ρ, O, F, _, a, h, fun d O1 F1 H1 v r1 e1 i1 q => ?_⟩
    cases d with
    | str y =>
      simp only [Is] at i1
      obtain ⟨rfl, zy, cy⟩ := i1
      obtain ⟨q1, q2⟩ := q
      refine ⟨_, rfl, by rw [tx_app, tx_len, List.length_append]; exact q1, ?_⟩
      rw [tx_app]
      exact js_of (a.step r1 e1) (by rw [List.length_append]; exact q1) (c.app cy) q2 fun out O' F' H' r e z c h => cv _ _ _ _ r (e1.trans e) z c h
    | _ => exact q.elim
def dJoined (ts : List DTE) : DTE := fun ρ O Q => dJs ts [] ρ O fun out O1 => Q (.str out) O1
theorem de_joined {v1 v2 : Expr} {rest : List Expr} {ts : List DTE} (h : DJ X F0 (v1 :: v2 :: rest) ts) : DE X F0 (.JoinedStr (v1 :: v2 :: rest) pos) (dJoined ts) := PE.imp (pe_joined (pj_of h)) fun σ H Q h => by
  obtain ⟨Z, ρ, O, F, Qd, at_, h, cv⟩ := h
  exact js_of (acc := []) at_ (Nat.zero_le _) (fun _ z => by cases z) h fun out O' F' H' r e z c q => cv _ _ _ _ _ r e (Is.mkStr z c) q
theorem de_joined1 (h : DE X F0 e te) : DE X F0 (.JoinedStr [e] pos) te := pe_joined1 h
end
end DS

namespace DS
open PySem PySem.Spec PyProof.Rows L2

/-! ### a def's promise, as one calls it -/
section
variable {P : Program} {w : World} {K : PySem.W.Frag} {mg : Str → Option Value} {base : Heap} {x qual : Str} {params : Arguments} {body : List Stmt} {scope : Scope} {f : Addr} {fd : FuncData} {k : Nat} {ps : List Str} {sp : DSp}
theorem mkDFn (F : FunD K x qual params body scope [] [] f fd) (gm : mg x = some (.ref f)) (hb : Binds K fd ps []) (h : FnOk P w K mg base (CX P w) k f fd ps (liftF K sp)) : DFn P w K mg base x k sp := by
  refine ⟨f, gm, F.kp, ?_⟩
  have z := h.raw hb (dvs := []) .nil
  have e : (fun (vs : List V) (H : Hp) (Q : VK) (E : XK) => liftF K sp (vs ++ []) H Q E) = liftF K sp := by funext vs H Q E; rw [List.append_nil]
  rw [e] at z; exact z
end

section
variable {X : Cx} {F0 : Bs} {x : Str} {pos : Pos}
theorem de_gint {i : Int} (hg : Gl X x) (hm : ∃ t, X.mg x = some (.int i t)) (hd : (x == ("__debug__" : Str)) = false := by decide) : DE X F0 (.Name x pos) (dC (.int i)) := by
  obtain ⟨t, hm⟩ := hm
  exact de_glob (v := .int i) hg hm ⟨t, rfl⟩ (fun _ => Is.mkInt) hd
theorem de_gstr {z : Str} (cs : List Nat) (hg : Gl X x) (hm : ∃ t, X.mg x = some (.str z t)) (h : cd z = cs := by decide +kernel) (h2 : (decide (cs.length ≤ sizeLine) && cs.all (fun c => decide (c < 0x110000))) = true := by decide +kernel) (hd : (x == ("__debug__" : Str)) = false := by decide) : DE X F0 (.Name x pos) (dC (.str cs)) := by
  obtain ⟨t, hm⟩ := hm
  simp only [Bool.and_eq_true, decide_eq_true_eq, List.all_eq_true] at h2
  have e : z = tx cs := by rw [← h, tx_cd]
  subst e
  exact de_glob (v := .str (tx cs)) hg hm ⟨t, rfl⟩ (fun _ => Is.mkStr h2.1 h2.2) hd
end

/-! ### raise X('m') of a class of the text that is derived from ValueError -/
structure ExcG (K : PySem.W.Frag) (mg : Str → Option Value) (x : Str) (C : Addr) : Prop where
  g : mg x = some (.ref C)
  q : PySem.W.excIn K C He.veBase "ValueError.__new__" = true
  k : PySem.W.keepIn K (.ref C) = true
  s : PySem.W.subIn K (.ref C) (.type "BaseException") = some true
  t : PySem.W.typeIn K (.ref C) = some (.type "type")
theorem ExcG.mk' {K : PySem.W.Frag} {h : Heap} {mg : Str → Option Value} {x : Str} (X : K.In h) (G : h.Ns mainGlobals mg) (c : (He.Fa.glo x).ok K = true) (d : (He.Fa.exc x).ok K = true) : ExcG K mg x (He.ga K x) := by
  obtain ⟨d1, d2, d3, d4⟩ := He.exc_ok d
  exact ⟨He.glo_ok X G c, d1, d2, d3, d4⟩
section
variable {X : Cx} {F0 : Bs} {W : DWX} {C : Addr} {x m : Str} {p p2 pc pos : Pos} {j}
theorem ds_raiseC (hc : X.calm = true) (tk : Takes X (liftW X.K F0 W)) (G : ExcG X.K X.mg x C) (hg : Gl X x) (hd : (x == ("__debug__" : Str)) = false := by decide) :
    DSt X F0 (.Raise (some (.Call (.Name x p) [.Constant (.str m) j p2] [] pc)) none pos) (sRaise (.pl (.ref C)) W) :=
  ds_raise hc tk (pmk_own PySem.F.excBase_ValueError G.q G.g G.k (raises_own G.s G.t) hg hd)
end

/-! ### sorted(xs) -/
open PySem.W in
def sortD (xs : List D) : List D := xs.mergeSort (PySem.W.dataLe false pd)
def sortOk (xs : List D) : Prop := plains xs = true ∧ PySem.W.AllAlike (xs.map pd) ∧ PySem.W.Sortable (xs.map pd) ∧ ∀ x ∈ xs, dep x ≤ 150
def bSort : DRL := fun ds O Q => match ds with
  | [.lst xs] => sortOk xs ∧ Q (.lst (sortD xs)) O
  | _ => False
def bSortM : DRL := fun ds O Q => match ds with
  | [.lst xs] => sortOk xs ∧ ∀ p, O p = none → Q (.atm (.ref p)) (oput O p (.lst (sortD xs)))
  | _ => False
def rSortD (K : PySem.W.Frag) : List V → Hp → VK → Prop := fun vs H Q => ∃ F xs us p, vs = [.ref p] ∧ Ext F H ∧ H p = some (.lst us) ∧ Iss K F xs us ∧ Sz us.length ∧ sortOk xs ∧ ∀ l ws, H l = none → Iss K F (sortD xs) ws → Sz ws.length → Q (.ref l) (upd H l (.lst ws))
theorem each_iss {K : PySem.W.Frag} {F : Hp} : ∀ {xs : List D} {us : List V} {vs : List Value}, Iss K F xs us → Vals us vs → PySem.W.EachIs (fun u x => ∃ v, RelV v u ∧ Is K F x v) vs xs
  | [], us, vs, h, r => by
    simp only [Iss] at h; subst h; cases r; exact .nil
  | x :: xs, us, vs, h, r => by
    simp only [Iss] at h
    obtain ⟨v, t, rfl, h1, h2⟩ := h
    cases r with
    | cons r1 r2 => exact .cons ⟨v, r1, h1⟩ (each_iss h2 r2)
theorem iss_each {K : PySem.W.Frag} {F : Hp} : ∀ {xs : List D} {vs : List Value}, PySem.W.EachIs (fun u x => ∃ v, RelV v u ∧ Is K F x v) vs xs → ∃ us, Iss K F xs us ∧ Vals us vs
  | [], vs, h => by
    cases h; exact ⟨[], Iss.nil, .nil⟩
  | x :: xs, vs, h => by
    cases h with
    | cons h1 h2 =>
      obtain ⟨v, r, i⟩ := h1
      obtain ⟨us, i2, r2⟩ := iss_each h2
      exact ⟨v :: us, Iss.cons i i2, .cons r r2⟩
theorem plains_mem : ∀ {xs : List D}, plains xs = true → ∀ x ∈ xs, plain x = true
  | [], _, x, h => by cases h
  | y :: ys, h, x, m => by
    simp only [plains, Bool.and_eq_true] at h
    rcases List.mem_cons.mp m with e | m
    · subst e; exact h.1
    · exact plains_mem h.2 x m
section
variable {X : Cx}
theorem call_sortedD (hu : X.A.units + 200 < cLine) : CallR X (.builtin "sorted") (rSortD X.K) := by
  intro pins s σ H vs us Q I r h
  obtain ⟨F, xs, ws, p, rfl, e, hp, i, z, ok, q⟩ := h
  obtain ⟨its, rv, hl, hz⟩ := I.list (.of hp)
  rw [Vals.ref1 r]
  have ei := each_iss i rv
  have er : PySem.W.EachIs (fun v d => ∃ as, Reads s.heap v (pd d) as) its xs := by
    have go : ∀ {vs : List Value} {ds : List D}, plains ds = true → PySem.W.EachIs (fun u x => ∃ v, RelV v u ∧ Is X.K F x v) vs ds → PySem.W.EachIs (fun v d => ∃ as, Reads s.heap v (pd d) as) vs ds := by
      intro vs ds hpl h
      induction h with
      | nil => exact .nil
      | cons h1 h2 ih =>
        simp only [plains, Bool.and_eq_true] at hpl
        obtain ⟨v, rv, iv⟩ := h1
        exact .cons (reads_pd I e hpl.1 iv rv) (ih hpl.2)
    exact go ok.1 ei
  refine PySem.W.sorted_data hl.isList ei er ok.2.1 ok.2.2.1 (by rw [i.len]; exact z) (fun b hb => ?_) fun out ho eo => ?_
  · have d := ok.2.2.2 b hb
    rw [dep_pd (plains_mem ok.1 b hb)]
    omega
  · obtain ⟨ep, he'⟩ := PyProof.Rows.sortedAll_at s.heap its out.toArray
    obtain ⟨us', i', r'⟩ := iss_each eo
    have l1 : us'.length ≤ sizeLine := by rw [r'.length, ho, i.len]; exact z
    refine ⟨.ref _, upd H (s.heap.objs.size + 1) (.lst us'), I.laid (t' := s.toks) (fun _ _ => PyProof.Rows.sortedAll_old) (Nat.le_succ _) ⟨l1, out, ep, r', by simpa using he'⟩, rfl, q _ _ (I.hok.fresh (Nat.le_succ _)) i' l1⟩
end
theorem l_sorted {K : PySem.W.Frag} : Lb K bSort (rSortD K) := by
  intro ds O Qd Z F H vs Q r i h c
  unfold bSort at h
  split at h
  · rename_i xs
    obtain ⟨v, rfl, iv⟩ := issV1 i
    obtain ⟨p, us, rfl, h2, h3, h4⟩ := iv
    refine ⟨F, xs, us, p, rfl, r.sub, ?_, h3, h4, h.1, fun l ws hl iw zw => conv_lst c r hl iw zw h.2⟩
    exact h2
  · exact h.elim
theorem l_sortedM {K : PySem.W.Frag} : Lb K bSortM (rSortD K) := by
  intro ds O Qd Z F H vs Q r i h c
  unfold bSortM at h
  split at h
  · rename_i xs
    obtain ⟨v, rfl, iv⟩ := issV1 i
    obtain ⟨p, us, rfl, h2, h3, h4⟩ := iv
    refine ⟨F, xs, us, p, rfl, r.sub, ?_, h3, h4, h.1, fun l ws hl iw zw => ?_⟩
    · exact h2
    · exact conv_own c r hl (Own.ofLst iw zw) (h.2 l (r.fresh hl).2)
  · exact h.elim

/-! ### text * int -/
def iMulS : DR2 := fun x y O Q => match x, y with
  | .str a, .int n => a.length ≤ 16 ∧ 0 ≤ n ∧ n ≤ 1048576 ∧ Q (.str (List.replicate n.toNat a).flatten) O
  | _, _ => False
def rMulS : R2 := fun x y H Q => ∃ (a : List Nat) (n : Int), x = .str (tx a) ∧ y = .int n ∧ a.length ≤ 16 ∧ 0 ≤ n ∧ n ≤ 1048576 ∧ Q (.str (tx (List.replicate n.toNat a).flatten)) H
theorem foldl_app (l : List Nat) : ∀ (n : Nat) (acc : Array Nat), ((List.replicate n l.toArray).foldl (· ++ ·) acc) = (acc.toList ++ (List.replicate n l).flatten).toArray
  | 0, acc => by simp
  | n + 1, acc => by
    rw [List.replicate_succ, List.foldl_cons, foldl_app l n, List.replicate_succ, List.flatten_cons]
    simp
theorem mul_tx (a : List Nat) {n : Int} (h : 0 ≤ n) : Txt.mul (tx a) n = tx (List.replicate n.toNat a).flatten := by
  unfold Txt.mul
  by_cases h1 : n < 1
  · have e : n = 0 := by omega
    subst e
    rfl
  · rw [if_neg h1]
    by_cases h2 : n = 1
    · subst h2; simp
    · by_cases h3 : a = []
      · subst h3
        rw [if_pos (by simp [tx_len])]
        have : ∀ k : Nat, (List.replicate k ([] : List Nat)).flatten = [] := fun k => by induction k <;> simp_all [List.replicate_succ]
        rw [this]
      · have h4 : ¬ ((n == 1 || (tx a).length == 0) = true) := by
          rw [tx_len]
          simp [h2, h3]
        rw [if_neg h4]
        unfold tx
        rw [foldl_app]
        simp
theorem op_mulS {X : Cx} : OpR X (binaryOp .Mult) rMulS := by
  intro pins s σ H x y v u Q I rx ry h
  obtain ⟨a, n, rfl, rfl, h1, h2, h3, q⟩ := h
  obtain ⟨t, rfl⟩ := rx
  obtain ⟨t2, rfl⟩ := ry
  refine PySem.W.KXi.mul (x := tx a) rfl (by rw [tx_len]; exact h1) (by omega) (by omega) fun t' k _ _ => ?_
  rw [mul_tx a h2]
  exact ⟨.str (tx (List.replicate n.toNat a).flatten), H, I.tok _, ⟨t', rfl⟩, q⟩
theorem l_mulS {K : PySem.W.Frag} : Lop K iMulS rMulS := by
  intro x y O Qd Z F H vx vy Q r ix iy h c
  unfold iMulS at h
  split at h
  · rename_i a n
    obtain ⟨rfl, z, ck⟩ := ix.str
    have e := iy.int
    subst e
    obtain ⟨h1, h2, h3, q⟩ := h
    have len : ∀ k : Nat, (List.replicate k a).flatten.length = k * a.length := fun k => by
      induction k with
      | zero => simp
      | succ k ih => rw [List.replicate_succ, List.flatten_cons, List.length_append, ih, Nat.succ_mul]; omega
    have hn : n.toNat ≤ 1048576 := by omega
    refine ⟨a, n, rfl, rfl, h1, h2, h3, c _ _ _ _ _ r Ext.refl (Is.mkStr ?_ ?_) q⟩
    · rw [len]
      have : n.toNat * a.length ≤ 1048576 * 16 := Nat.mul_le_mul hn h1
      have z2 : (1048576 * 16 : Nat) ≤ sizeLine := by decide
      exact Nat.le_trans this z2
    · intro c' hc
      obtain ⟨l, hl, hc2⟩ := List.mem_flatten.mp hc
      rw [List.eq_of_mem_replicate hl] at hc2
      exact ck c' hc2
  · exact h.elim
end DS

namespace DS
open PySem PySem.Spec PyProof.Rows L2
def iInc : DR2 := fun x y O Q => match x, y with
  | .int i, .int j => Q (.int (i + j)) O
  | _, _ => False
theorem l_inc {K : PySem.W.Frag} : Lop K iInc (rI0 fun i j => .int (i + j)) := by
  intro x y O Qd Z F H vx vy Q r ix iy h c
  unfold iInc at h
  split at h
  · exact ⟨_, _, ix.int, iy.int, c _ _ _ _ _ r Ext.refl Is.mkInt h⟩
  · exact h.elim
open Classical in
noncomputable def exOf (C : Addr) : DX → Option Bool := fun x => if x = .pl (.ref C) then some true else none
theorem exOf_ok {K : PySem.W.Frag} {C : Addr} (h : PySem.W.exmOne K (.ref C) (.ref C) = some true) : ∀ x b, exOf C x = some b → PySem.W.exmOne K x.cls (.ref C) = some b := by
  intro x b e
  unfold exOf at e
  split at e
  · rename_i z
    subst z
    cases e
    exact h
  · cases e
theorem exOf_self {C : Addr} : exOf C (.pl (.ref C)) = some true := by unfold exOf; rw [if_pos rfl]
end DS

namespace DS
open PySem PySem.Spec PyProof.Rows
/-! ### set(xs), by what one item does -/
section
variable {prog : Program} {w : World} {A : Around} {I S : Addr} {fp wr : List Addr} {G : Array GenState → Array GenState → Prop} {n : Nat} {Pv : Nat → Value → Prop} {St : Nat → Shared → Prop}
/-- what adding item i does, said of heaps -/
def AddsJ (prog : Program) (w : World) (A : Around) (S : Addr) (n : Nat) (Pv : Nat → Value → Prop) (J : Nat → Heap → Prop) : Prop :=
  ∀ i v (s1 : Shared) (Q : Bool → Shared → Prop) (E : Value → Shared → Prop), i < n → Pv i v → J i s1.heap →
    (∀ b h2 tk, Heap.SameBut S s1.heap h2 → J (i + 1) h2 → s1.toks ≤ tk → Q b { s1 with heap := h2, toks := tk }) → wpAny (model prog w) A (setAdd S v) Q E s1
theorem upd_loop {R : Result → Shared → Prop} {J : Nat → Heap → Prop} (W : WalksS prog w A.in1 I fp wr G n Pv St) (out : S ∉ fp)
    (kp : ∀ i h h2, J i h → (∀ b o, b ∉ wr → h.get? b = some o → h2.get? b = some o) → J i h2) (add : AddsJ prog w A.in1 S n Pv J) :
    ∀ (left i : Nat) (s : Shared), i + left = n → St i s → J i s.heap → (∀ s2, Moved (S :: wr) G s s2 → J n s2.heap → R (.ok (.ret .none)) s2) →
      codeAny (model prog w) A (.builtin "set.update.loop" ⟨[.ref S, .ref I], []⟩) R s
  | 0, i, s, e, st, j, fin => by
    have e2 : i = n := e
    subst e2
    refine codeAny_builtin F.entry_set_update_loop ?_; rw [Around.under_plainId F.plain_set_update_loop _]
    refine (show wpAny _ A.in1 (pyNext (.ref I) >>= _) _ _ s from wpAny_bind (W.done s _ _ st fun s2 mv => ?_))
    refine (show wpAny _ A.in1 (ret Value.none) _ _ s2 from wpAny_pure (fin s2 ⟨fun b o hb => mv.heap b o fun z => hb (List.mem_cons_of_mem _ z), mv.gens, mv.drawn, mv.os, mv.toks⟩ (kp _ _ _ j mv.heap)))
  | left + 1, i, s, e, st, j, fin => by
    have lt : i < n := by omega
    refine codeAny_builtin F.entry_set_update_loop ?_; rw [Around.under_plainId F.plain_set_update_loop _]
    refine (show wpAny _ A.in1 (pyNext (.ref I) >>= _) _ _ s from wpAny_bind (W.item i s _ _ lt st fun v s1 pv st1 mv => ?_))
    refine (show wpAny _ A.in1 (holding [v] (setAdd S v) >>= _) _ _ s1 from wpAny_bind (wpAny_holding (add i v s1 _ _ lt pv (kp _ _ _ j mv.heap) fun b h2 tk sb j2 tl => ?_)))
    have at1 := W.frame (i + 1) s1 h2 tk st1 tl fun b hb o eb => (sb.2 b fun z => out (z ▸ hb)).trans eb
    refine wpAny_pure ⟨plainId_quiet F.plain_set_update_loop _, upd_loop W out kp add left (i + 1) _ (by omega) at1 j2 fun s3 mv3 j3 => fin s3 ⟨fun b o hb eb => ?_, W.gtrans _ _ _ mv.gens mv3.gens, mv3.drawn.trans mv.drawn, mv3.os.trans mv.os, Nat.le_trans mv.toks (Nat.le_trans tl mv3.toks)⟩ j3⟩
    have nw : b ∉ wr := fun z => hb (List.mem_cons_of_mem _ z)
    exact mv3.heap b o hb ((sb.2 b fun z => hb (z ▸ List.mem_cons_self)).trans (mv.heap b o nw eb))
end
/-- the empty set, the list's iterator behind it -/
def newS (led : Bool) : Obj := { cls := .type "set", dict := none, data := .set #[] 0 (.fresh 0 0 led) }
def newI (l : Addr) : Obj := { cls := .type "list_iterator", data := .fields #[.ref l, .int 0 0] }
section
variable {prog : Program} {w : World} {A : Around} {E : Value → Shared → Prop} {s : Shared}
theorem set_callJ {l : Addr} {items : Array Value} {Q : Value → Shared → Prop} {J : Nat → Heap → Prop} (hh : A.handled = none) (hl : s.heap.IsList l items)
    (j0 : ∀ led, (w.params.followText "set-order" = true ∨ led = true) → J 0 ((s.heap.push (newS led)).push (newI l))) (kp : ∀ i h h2, J i h → (∀ b o, b ≠ s.heap.objs.size + 1 → h.get? b = some o → h2.get? b = some o) → J i h2)
    (add : AddsJ prog w A.in1.in1.in1 s.heap.objs.size items.size (fun i v => items[i]? = some v) J)
    (fin : ∀ (h2 : Heap) (tk : Nat), J items.size h2 → (∀ b o, b < s.heap.objs.size → s.heap.get? b = some o → h2.get? b = some o) → Q (.ref s.heap.objs.size) { s with heap := h2, toks := tk }) :
    wpAny (model prog w) A (call (.type "set") [.ref l]) Q E s := by
  obtain ⟨c, tl, hmro⟩ := F.called_set.mro; have m1 := F.called_set.made; have m2 := F.called_set.sub
  refine wpAny_call (codeAny_of_tree (show wpAny _ _ (callAny (.type "set") _) _ _ _ from wpAny_pure ⟨Code.quiet_builtin _ (by decide +kernel), codeAny_builtin F.entry_type_call ?_⟩))
  rw [Around.under_plain (weight_type_call_type "set" [.ref l] []) rfl]; have m3 := F.called_set.notType; have m4 := F.called_set.canCreate; have m5 := F.typeCall_set_1 (.ref l)
  repeat (any_goals (first | assumption | wp_step))
  refine codeAny_mono (L2.code_set_led1 (.ref l) (E := E) (Q₁ := fun o s₁ => ∃ led : Bool, (w.params.followText "set-order" = true ∨ led = true) ∧ o = .ref s.heap.objs.size ∧ s₁ = { s with heap := s.heap.push (newS led) }) ⟨!w.params.followText "set-order", by cases w.params.followText "set-order" <;> simp, rfl, rfl⟩) fun r s₁ hr => ?_
  cases r with
  | error e => exact hr
  | ok fl =>
    cases fl with
    | ret o =>
      obtain ⟨led, hled, rfl, rfl⟩ := hr
      have at0 : (s.heap.push (newS led)).get? s.heap.objs.size = some (newS led) := Heap.get?_push_size _ rfl
      have ty0 : Shared.TypeIs { s with heap := s.heap.push (newS led) } (.ref s.heap.objs.size) "set" := ⟨_, at0, rfl⟩
      have m6 := F.called_set.init.lookup; have m7 := F.called_set.init.bind (.ref s.heap.objs.size)
      repeat (any_goals (first | assumption | wp_step))
      refine codeAny_mono (codeAny_call_builtin (R := wants (fun r s₂ => r = .none ∧ ∃ h2 tk, s₂ = { s with heap := h2, toks := tk } ∧ J items.size h2 ∧ (∀ b o, b < s.heap.objs.size → s.heap.get? b = some o → h2.get? b = some o)) E)
        F.called_set.init.plain F.entry_set_init (check_set_init_1 ty0 ?_)) fun r₂ s₂ hr₂ => ?_
      · obtain ⟨ol, ol1, ol2, nl, ol3⟩ := hl
        obtain ⟨oc, od, ot, os⟩ := ol
        simp only at ol2 ol3
        subst ol2; subst ol3
        have ol4 : (s.heap.push (newS led)).get? l = some { cls := .type "list", dict := od, data := .seq items nl, slots := os } := Heap.get?_push_of_some _ ol1
        have m8 := F.sub_list_set; have m9 := F.sub_list_frozenset; have m10 : (Value.type "list" == Value.type "dict") = false := by decide
        have il : (s.heap.push (newS led)).IsList l items := ⟨_, ol4, rfl, nl, rfl⟩
        unfold Builtin.«set.__init__» noKeywords Builtin.Frozenset.updateFrom; generalize hIt : pyIter = It
        wp_walk
        subst hIt
        refine wpAny_pyIter_list il (wpAny_bind (wpAny_runValue ?_))
        have lt : l < s.heap.objs.size := Heap.lt_size ol1
        have sz : (s.heap.push (newS led)).objs.size = s.heap.objs.size + 1 := Heap.size_push ..
        have n1 : l ≠ (s.heap.push (newS led)).objs.size := by rw [sz]; exact Nat.ne_of_lt (Nat.lt_succ_of_lt lt)
        have n2 : s.heap.objs.size ∉ [(s.heap.push (newS led)).objs.size, l] := by
          rw [sz]
          intro z
          rcases List.mem_cons.mp z with z | z
          · exact absurd z (Nat.ne_of_lt (Nat.lt_succ_self _))
          · rw [List.mem_singleton] at z; exact absurd z.symm (Nat.ne_of_lt lt)
        refine upd_loop (J := J) ((Walks.list (by simp [hh]) _ l n1 items).toS) n2 (fun i h h2 j k => kp i h h2 j fun b o hb => k b o (by rw [sz, List.mem_singleton]; exact hb)) add items.size 0 _ (Nat.zero_add _)
          ⟨⟨_, Heap.get?_push_size _ rfl, rfl, rfl⟩, (il.push _)⟩ (j0 led hled) fun s2 mv j2 => ?_
        obtain ⟨h2, g2, d2, tk2, os2⟩ := s2
        have eg : g2 = s.gens := mv.gens; have ed : d2 = s.drawn := mv.drawn; have eo : os2 = s.os := mv.os
        subst eg; subst ed; subst eo
        show wpAny _ _ _ _ _ _
        refine wpAny_pure (show wpAny _ _ (ret Value.none) _ _ _ from wpAny_pure ⟨rfl, h2, tk2, rfl, j2, fun b o hb e => ?_⟩)
        refine mv.heap b o (fun z => ?_) (Heap.get?_push_of_some _ (Heap.get?_push_of_some _ e))
        rcases List.mem_cons.mp z with z | z
        · exact absurd z (Nat.ne_of_lt hb)
        · rw [List.mem_singleton, sz] at z; exact absurd z (Nat.ne_of_lt (Nat.lt_succ_of_lt hb))
      · cases r₂ with
        | error e => exact hr₂
        | ok fl₂ =>
          cases fl₂ with
          | ret r =>
            obtain ⟨rfl, h2, tk, rfl, j2, k2⟩ := hr₂
            repeat (any_goals (first | assumption | wp_step))
            exact fin _ _ j2 k2
          | _ => exact hr₂.elim
    | _ => exact hr.elim
end
end DS

namespace DS
open PySem PySem.Spec PyProof.Rows
/-! ### set(xs) of texts -/
section
variable {prog : Program} {w : World} {A : Around} {S : Addr}
def Jstr (prog : Program) (w : World) (S : Addr) (xs : List Str) (i : Nat) (h : Heap) : Prop :=
  ∃ es : List Str, es.Nodup ∧ (∀ x, x ∈ es ↔ x ∈ xs.take i) ∧ h.SetOf (PySem.strKind prog w) S (fun k => decide (k ∈ es)) es.length
theorem Jstr.at {xs : List Str} {i : Nat} {h h2 : Heap} (j : Jstr prog w S xs i h) (k : ∀ o, h.get? S = some o → h2.get? S = some o) : Jstr prog w S xs i h2 := by
  obtain ⟨es, n, m, o, es', ep, t, ho, r⟩ := j
  exact ⟨es, n, m, o, es', ep, t, k o ho, r⟩
theorem take_more {α : Type} {l : List α} {i : Nat} {x : α} (h : l[i]? = some x) : l.take (i + 1) = l.take i ++ [x] := by rw [List.take_add_one, h]; rfl
theorem adds_str {xs : List Str} {Pv : Nat → Value → Prop} (hv : ∀ i v, Pv i v → ∃ x t, v = .str x t ∧ xs[i]? = some x) (hb : xs.length + 1 < scanBound) : AddsJ prog w A S xs.length Pv (Jstr prog w S xs) := by
  intro i v s1 Q E hi pv j q
  obtain ⟨x, t, rfl, ex⟩ := hv i v pv
  obtain ⟨es, nd, mem, hS⟩ := j
  have len : es.length ≤ xs.length := by
    have h1 : ∀ l m : List Str, l.Nodup → (∀ y ∈ l, y ∈ m) → l.length ≤ m.length := by
      intro l
      induction l with
      | nil => intro m _ _; exact Nat.zero_le _
      | cons y l ih =>
        intro m n s
        obtain ⟨a, b⟩ := List.nodup_cons.mp n
        obtain ⟨u, v, rfl⟩ := List.append_of_mem (s y List.mem_cons_self)
        have := ih (u ++ v) b fun z hz => by
          have h2 := s z (List.mem_cons_of_mem _ hz)
          simp only [List.mem_append, List.mem_cons] at h2 ⊢
          rcases h2 with h | h | h
          · exact .inl h
          · subst h; exact absurd hz a
          · exact .inr h
        simp only [List.length_append, List.length_cons] at this ⊢
        omega
    exact h1 es xs nd fun y hy => List.mem_of_mem_take ((mem y).mp hy)
  unfold setAdd
  refine wpAny_holding (wpAny_bind ((PySem.strKind prog w).pyHash (k := x) (by exact PySem.strKind_is _ _ _ _) ?_))
  refine wpAny_setAddHashed_of (knd := PySem.strKind prog w) (s := { s1 with toks := s1.toks + 1 }) (by exact PySem.strKind_is _ _ _ _) rfl hS (by omega) fun h2 sb hS2 => ?_
  refine q _ h2 (s1.toks + 1) sb ?_ (Nat.le_succ _)
  by_cases c : x ∈ es
  · refine ⟨es, nd, fun y => ?_, SetOf_congr hS2 (fun k => ?_) (by rw [decide_eq_true c, if_pos rfl])⟩
    · rw [take_more ex, List.mem_append, mem, List.mem_singleton]
      exact ⟨.inl, fun z => z.elim id fun e => e ▸ (mem x).mp c⟩
    · by_cases e : k = x
      · subst e; rw [decide_eq_true c]; rfl
      · rw [decide_eq_false e, Bool.or_false]
  · refine ⟨es ++ [x], ?_, fun y => ?_, SetOf_congr hS2 (fun k => ?_) (by rw [decide_eq_false c, if_neg (by decide), List.length_append]; rfl)⟩
    · rw [List.nodup_append]
      refine ⟨nd, by simp, fun a ha b hb e => ?_⟩
      rw [List.mem_singleton] at hb
      subst hb; subst e; exact c ha
    · rw [take_more ex, List.mem_append, List.mem_append, mem]
    · rw [Bool.eq_iff_iff]
      simp only [Bool.or_eq_true, decide_eq_true_eq, List.mem_append, List.mem_singleton]
end
end DS

namespace DS
open PySem PySem.Spec PyProof.Rows
/-! ### what a set asks of a tuple of plain keys -/
section
variable {P : Program} {w : World} {A : Around} {E : Value → Shared → Prop} {s : Shared} {K : Type} [DecidableEq K] {knd : KeyKind P w K} {ks : List K} {b : Addr}
theorem oac_val {v : Value} (n : Nat) (h : carriedByValue v = true) : ofAClassStatement n v = pure false := by
  cases v with
  | ref a => cases h
  | _ => cases n <;> rfl
theorem hbv_val {v : Value} (n : Nat) (h : carriedByValue v = true) : ∃ k : Bool, hashByValue n v = pure k := by
  cases v with
  | ref a => cases h
  | _ => cases n <;> exact ⟨_, rfl⟩
theorem oac_key {Q : Bool → Shared → Prop} (x : IsTupleKey knd s.heap ks b) (q : Q false s) : wpAny (model P w) A (ofAClassStatement 8 (.ref b)) Q E s := by
  have ty := x.typeIs
  obtain ⟨o, its, n, ho, _, hd, ia⟩ := x
  have bv := ia.byValue
  unfold ofAClassStatement
  refine wpAny_bind (wpAny_typeOf ty ?_); dsimp only
  have e : (("tuple" : String) == "tuple") = true := by decide
  simp only [e, if_true, Bool.not_true, Bool.false_eq_true, if_false]
  try (refine wpAny_bind (wpAny_pure ?_); try simp only [Bool.not_true, Bool.false_eq_true, if_false])
  refine (show wpAny _ _ (seqItems? (.ref b) >>= _) _ _ s from wpAny_bind (wpAny_seqItems ho hd ?_)); dsimp only
  refine wpAny_bind (show wpAny _ _ (forIn its _ _) _ _ s from ?_); rw [← Array.forIn_toList]
  refine wpAny_forIn_list _ (fun rest r s2 => r.1 = none ∧ s2 = s ∧ ∀ v ∈ rest, carriedByValue v = true) _ ?_ ?_ _ _ ⟨rfl, rfl, bv⟩
  · rintro v rest r s2 ⟨h1, rfl, h3⟩
    rw [oac_val 7 (h3 v List.mem_cons_self)]
    refine wpAny_bind (wpAny_pure ?_); simp only [Bool.false_eq_true, if_false]
    exact wpAny_pure ⟨rfl, rfl, fun u hu => h3 u (List.mem_cons_of_mem _ hu)⟩
  · rintro ⟨r1, r2⟩ s2 ⟨h1, rfl, _⟩
    simp only at h1; subst h1; exact wpAny_pure q
theorem hbv_key {Q : Bool → Shared → Prop} (x : IsTupleKey knd s.heap ks b) (q : ∀ k, Q k s) : wpAny (model P w) A (hashByValue 8 (.ref b)) Q E s := by
  have ty := x.typeIs
  obtain ⟨o, its, n, ho, _, hd, ia⟩ := x
  have bv := ia.byValue
  unfold hashByValue
  refine wpAny_bind (wpAny_specialOf ty F.slot_tuple_hash.lookup (show wpAny _ _ (seqItems? (.ref b) >>= _) _ _ s from wpAny_bind (wpAny_seqItems ho hd ?_)))
  refine wpAny_bind (show wpAny _ _ (forIn its _ _) _ _ s from ?_); rw [← Array.forIn_toList]
  refine wpAny_forIn_list _ (fun rest r s2 => s2 = s ∧ ∀ v ∈ rest, carriedByValue v = true) _ ?_ ?_ _ _ ⟨rfl, bv⟩
  · rintro v rest r s2 ⟨rfl, h3⟩
    obtain ⟨k, hk⟩ := hbv_val 7 (h3 v List.mem_cons_self)
    rw [hk]
    refine wpAny_bind (wpAny_pure ?_)
    cases k with
    | true => simp only [Bool.not_true, Bool.false_eq_true, if_false]; exact wpAny_pure ⟨rfl, fun u hu => h3 u (List.mem_cons_of_mem _ hu)⟩
    | false => simp only [Bool.not_false, if_true]; exact wpAny_pure (wpAny_pure (q _))
  · rintro ⟨r1, r2⟩ s2 ⟨rfl, _⟩
    cases r1 with
    | none => exact wpAny_pure (q _)
    | some k => exact wpAny_pure (q _)
theorem seen_key {Q : Bool → Shared → Prop} (x : IsTupleKey knd s.heap ks b) {ys : List Value} (hy : ∀ y ∈ ys, ∃ k c, y = Value.ref c ∧ IsTupleKey knd s.heap k c) (q : Q false s) : wpAny (model P w) A (searchCouldBeSeen (.ref b) ys) Q E s := by
  unfold searchCouldBeSeen
  refine wpAny_bind (wpAny_forIn_list _ (fun rest r s2 => r.1 = none ∧ s2 = s ∧ ∀ y ∈ rest, ∃ k c, y = Value.ref c ∧ IsTupleKey knd s.heap k c) _ ?_ ?_ _ _ ⟨rfl, rfl, hy⟩)
  · rintro v rest r s2 ⟨h1, rfl, h3⟩
    obtain ⟨k, c, rfl, hc⟩ := h3 v List.mem_cons_self
    have more := fun u (hu : u ∈ rest) => h3 u (List.mem_cons_of_mem _ hu)
    dsimp only
    by_cases same : (b == c || (carriedByValue (.ref b) && carriedByValue (.ref c))) = true
    · exact L2.wp_if_pos same (wpAny_pure ⟨rfl, rfl, more⟩)
    · refine L2.wp_if_neg same (wpAny_bind (wpAny_eqIsQuiet_tuple x ?_)); simp only [Bool.not_true, Bool.false_eq_true, if_false]
      refine wpAny_bind (wpAny_eqIsQuiet_tuple hc ?_); simp only [Bool.not_true, Bool.false_eq_true, if_false]
      refine wpAny_bind (oac_key x ?_); simp only [Bool.false_eq_true, if_false]
      refine wpAny_bind (oac_key hc ?_); simp only [Bool.false_eq_true, if_false]
      exact wpAny_pure ⟨rfl, rfl, more⟩
  · rintro ⟨r1, r2⟩ s2 ⟨h1, rfl, _⟩
    simp only at h1; subst h1; exact wpAny_pure q
end
end DS

namespace DS
open PySem PySem.Spec PyProof.Rows
/-! ### a set of tuples, its table -/
abbrev st0 (t : SetTable) (h : Int) : SetTable.Probe := L2.runAt t.mask (SetTable.bits h % (t.mask + 1)) (SetTable.bits h)
abbrev prb (t : SetTable) (h : Int) (c : Nat) : SetTable.Probe := L2.nth t.mask (st0 t h) c
def hAt (es : Array (Int × Value)) (i : Nat) : Int := (es[i]?.map (·.1)).getD 0
section
variable {P : Program} {w : World} {K : Type} [DecidableEq K]
structure TabT (knd : KeyKind P w K) (h : Heap) (a : Addr) (L : List (Addr × List K)) (es : Array (Int × Value)) (ep : Nat) (t : SetTable) : Prop where
  ob : ∃ o, h.get? a = some o ∧ o.ExactSet ∧ o.data = .set es ep t
  rows : es.toList = L.map fun p => (tupleKeyHash knd p.2, Value.ref p.1)
  tab : L2.TabOk t (L.map fun p => tupleKeyHash knd p.2)
  nd : (L.map (·.2)).Nodup
  tup : ∀ p ∈ L, IsTupleKey knd h p.2 p.1
  led : w.params.followText "set-order" = true ∨ t.led = true
  room : L.length * 5 < t.mask * 3
  few : L.length < 64
variable {knd : KeyKind P w K} {A : Around} {E : Value → Shared → Prop} {s : Shared} {a : Addr} {L : List (Addr × List K)} {es : Array (Int × Value)} {ep : Nat} {t : SetTable}
theorem TabT.size {h : Heap} (R : TabT knd h a L es ep t) : es.size = L.length := by
  rw [← Array.length_toList, R.rows, List.length_map]
theorem TabT.places {h : Heap} (R : TabT knd h a L es ep t) : t.place.size = L.length := by rw [R.tab.sz, List.length_map]
theorem TabT.fits {h : Heap} (R : TabT knd h a L es ep t) : t.fits es.size = true := by
  have h1 := R.places; have h2 := R.size; have h3 := R.room
  unfold SetTable.fits SetTable.fill
  rw [R.tab.dm, Bool.and_eq_true, beq_iff_eq, decide_eq_true_eq]
  refine ⟨by omega, ?_⟩
  show t.place.size + 0 ≤ t.mask
  omega
theorem TabT.entry {h : Heap} (R : TabT knd h a L es ep t) {i : Nat} {p : Addr × List K} (e : L[i]? = some p) : es[i]? = some (tupleKeyHash knd p.2, Value.ref p.1) := by
  rw [← Array.getElem?_toList, R.rows, List.getElem?_map, e]; rfl
theorem TabT.hAt {h : Heap} (R : TabT knd h a L es ep t) {i : Nat} {p : Addr × List K} (e : L[i]? = some p) : DS.hAt es i = tupleKeyHash knd p.2 := by
  unfold DS.hAt; rw [R.entry e]; rfl
theorem prb_clean (t : SetTable) (h : Int) (c : Nat) : (prb t h c).dummy = none := by
  have go : ∀ (n : Nat) (p : SetTable.Probe), p.dummy = none → (L2.nth t.mask p n).dummy = none := fun n => by
    induction n with
    | zero => exact fun p e => e
    | succ n ih => exact fun p e => ih _ (by unfold L2.adv; split <;> exact e)
  exact go c _ rfl
theorem srch {b : Addr} {ks : List K} {h : Int} (hh : h = tupleKeyHash knd ks) (R : TabT knd s.heap a L es ep t) (x : IsTupleKey knd s.heap ks b) (hu : A.units < cLine) {N : Nat} (hN : N < 10 * SetTable.turns t.mask) (hE : (prb t h N).j ∉ t.place.toList)
    (hB : ∀ c, c < N → (prb t h c).j ∈ t.place.toList) {Q : SetFound → Shared → Prop} (hin : ks ∈ L.map (·.2) → Q (.there none) s) (hout : ks ∉ L.map (·.2) → Q (.free (prb t h N).j false) s) :
    ∀ (f c : Nat) (stand : Option SetTable.Probe), stand.getD (t.probeStart h) = prb t h c → c ≤ N → N - c < f →
      (∀ (i : Nat) p, L[i]? = some p → p.2 = ks → ∃ d, c ≤ d ∧ d < N ∧ t.place.toList[i]? = some (prb t h d).j) → wpAny (model P w) A (setSearchFrom a (.ref b) h true f stand) Q E s
  | 0, c, stand, _, _, lt, _ => absurd lt (Nat.not_lt_zero _)
  | f + 1, c, stand, at_, le, lt, ahead => by
    obtain ⟨o, ho, _, hd⟩ := R.ob
    have gw : ¬ t.gaveWay = true := by unfold SetTable.gaveWay; rw [L2.mask_odd R.tab.mok]; decide
    rw [L2.setSearchFrom_succ]
    refine wpAny_bind (wpAny_setState_of ho hd R.fits ?_); dsimp only
    refine L2.wp_if_neg gw ?_; try refine wpAny_bind (wpAny_pure ?_)
    have sh : ∀ q, L2.nth t.mask (prb t h c) q = prb t h (c + q) := fun q => (L2.nth_add t.mask c _ q).symm
    have go := L2.go_spec t R.tab.ris R.tab.dm (DS.hAt es) h (10 * SetTable.turns t.mask) (N - c) (prb t h c) (prb_clean t h c) (by omega) (fun q hq => by rw [sh]; exact hB _ (by omega)) (by rw [sh, Nat.add_sub_cancel' le]; exact hE)
    rcases go with ⟨q, i, hq, hi, he, first, pr⟩ | ⟨none_, pr⟩
    · rw [sh] at hi pr; rw [sh] at pr
      have pr2 : t.probe (fun i => (es[i]?.map (·.1)).getD 0) h (stand.getD (t.probeStart h)) = some (.candidate (prb t h (c + q)).j i (prb t h (c + (q + 1)))) := by rw [at_]; exact pr
      rw [pr2]; dsimp only
      have il : i < L.length := by
        have h1 := (List.getElem?_eq_some_iff.mp hi).1
        rw [Array.length_toList, R.places] at h1
        exact h1
      obtain ⟨p, hp⟩ : ∃ p, L[i]? = some p := ⟨L[i], List.getElem?_eq_getElem il⟩
      have pm : p ∈ L := List.mem_of_getElem? hp
      have rest : wpAny (model P w) A (L2.searchRest a (.ref b) h true f es t (prb t h (c + q)).j i (prb t h (c + (q + 1)))) Q E s := by
        unfold L2.searchRest; rw [R.entry hp]; dsimp only
        refine wpAny_bind (wpAny_holding (wpAny_eqBool_tuple hu (R.tup p pm) x (wpAny_bind (wpAny_setState_of ho hd R.fits ?_)))); dsimp only
        by_cases same : p.2 = ks
        · exact L2.wp_if_pos (by simp [same]) (wpAny_pure (hin (List.mem_map.mpr ⟨p, pm, same⟩)))
        · refine L2.wp_if_neg (by simp [same]) ?_; try refine wpAny_bind (wpAny_pure ?_)
          rw [L2.sameMem]; dsimp only
          have sl : t.slot (prb t h (c + q)).j = .live i := L2.slot_live R.tab.ris hi
          simp only [if_true, sl, R.entry hp]
          refine wpAny_bind (wpAny_isSame_ref_self (wpAny_bind (wpAny_pure ?_))); simp only [if_true]
          refine L2.wp_if_neg (by simp [same]) (srch hh R x hu hN hE hB hin hout f (c + (q + 1)) _ rfl (by omega) (by omega) fun j r hj hr => ?_)
          obtain ⟨d, d1, d2, d3⟩ := ahead j r hj hr
          refine ⟨d, ?_, d2, d3⟩
          have ne1 : ¬ d < c + q := fun z => first (d - c) j (by omega) (by rw [sh, Nat.add_sub_cancel' d1]; exact d3) ((R.hAt hj).trans (by rw [hr, hh]))
          have ne2 : d ≠ c + q := fun z => by
            subst z
            have s2 := L2.slot_live R.tab.ris d3
            rw [sl] at s2
            injection s2 with s2
            subst s2
            rw [hp] at hj
            cases hj
            exact same hr
          omega
      by_cases hl : t.led = true
      · refine L2.wp_if_neg (by simp [hl]) ?_; try refine wpAny_bind (wpAny_pure ?_)
        exact rest
      · refine L2.wp_if_pos (by simp [hl]) (wpAny_bind (seen_key x (fun y hy => ?_) ?_))
        · obtain ⟨e, e1, rfl⟩ := List.mem_map.mp hy
          have e2 : e ∈ es.toList := by
            have : e ∈ es ∧ e.1 = h := by simpa using e1
            simpa using this.1
          rw [R.rows] at e2
          obtain ⟨r, r1, rfl⟩ := List.mem_map.mp e2
          exact ⟨r.2, r.1, rfl, R.tup r r1⟩
        · refine L2.wp_if_neg (by decide) ?_; try refine wpAny_bind (wpAny_pure ?_)
          exact rest
    · have pr2 : t.probe (fun i => (es[i]?.map (·.1)).getD 0) h (stand.getD (t.probeStart h)) = some (.empty (prb t h N).j none) := by
        rw [sh, Nat.add_sub_cancel' le] at pr
        rw [at_]; exact pr
      rw [pr2]; dsimp only
      refine wpAny_pure (hout fun hm => ?_)
      obtain ⟨r, r1, r2⟩ := List.mem_map.mp hm
      obtain ⟨j, j1, j2⟩ := List.getElem_of_mem r1
      have hj : L[j]? = some r := by rw [List.getElem?_eq_getElem j1, j2]
      obtain ⟨d, d1, d2, d3⟩ := ahead j r hj r2
      exact none_ (d - c) j (by omega) (by rw [sh, Nat.add_sub_cancel' d1]; exact d3) ((R.hAt hj).trans (by rw [r2, hh]))
end
end DS

namespace DS
open PySem PySem.Spec PyProof.Rows
section
variable {P : Program} {w : World} {K : Type} [DecidableEq K] {knd : KeyKind P w K} {A : Around} {E : Value → Shared → Prop} {s : Shared} {a : Addr} {L : List (Addr × List K)} {es : Array (Int × Value)} {ep : Nat} {t : SetTable}
theorem srch0 {b : Addr} {ks : List K} (R : TabT knd s.heap a L es ep t) (x : IsTupleKey knd s.heap ks b) (hu : A.units < cLine) {Q : SetFound → Shared → Prop} (hin : ks ∈ L.map (·.2) → Q (.there none) s)
    (hout : ∀ N, ks ∉ L.map (·.2) → L2.way t.mask (tupleKeyHash knd ks) N ∉ t.place.toList → (∀ c, c < N → L2.way t.mask (tupleKeyHash knd ks) c ∈ t.place.toList) → Q (.free (L2.way t.mask (tupleKeyHash knd ks) N) false) s) :
    wpAny (model P w) A (setSearch a (.ref b) (tupleKeyHash knd ks) true) Q E s := by
  have room := R.room
  obtain ⟨N, n1, n2, n3⟩ := R.tab.first (by rw [List.length_map]; omega) (tupleKeyHash knd ks)
  have small : N < 100000 := by
    have h : 10 * SetTable.turns t.mask ≤ 1420 := by
      unfold SetTable.turns
      rcases R.tab.mok with e | e | e <;> omega
    omega
  unfold setSearch
  refine srch rfl R x hu n1 n2 n3 hin (fun z => hout N z n2 n3) 100000 0 none rfl (Nat.zero_le _) (by omega) fun i p hp hk => ?_
  have hi : (L.map fun p => tupleKeyHash knd p.2)[i]? = some (tupleKeyHash knd ks) := by rw [List.getElem?_map, hp, ← hk]; rfl
  have il : i < t.place.toList.length := by
    rw [Array.length_toList, R.places]
    exact (List.getElem?_eq_some_iff.mp hp).1
  obtain ⟨c, c1, c2⟩ := R.tab.before n2 hi (List.getElem?_eq_getElem il)
  exact ⟨c, Nat.zero_le _, c1, by rw [List.getElem?_eq_getElem il, ← c2]⟩
theorem key_same {h h2 : Heap} {ks : List K} {b : Addr} {o : Obj} (x : IsTupleKey knd h ks b) (ho : h.get? a = some o) (hd : o.data = .set es ep t) (sb : Heap.SameBut a h h2) : IsTupleKey knd h2 ks b := by
  obtain ⟨o2, its, n, h1, h3, h4, h5⟩ := x
  refine ⟨o2, its, n, (sb.2 b fun z => ?_).trans h1, h3, h4, h5⟩
  subst z
  rw [ho] at h1
  cases h1
  rw [hd] at h4
  cases h4
theorem rows_order (hr : es.toList = L.map fun p => (tupleKeyHash knd p.2, Value.ref p.1)) (order : Array Nat) (pm : order.toList.Perm (List.range L.length)) :
    ∃ M : List (Addr × List K), (order.filterMap (es[·]?)).toList = (M.map fun p => (tupleKeyHash knd p.2, Value.ref p.1)) ∧ M.Perm L ∧ (M.map fun p => tupleKeyHash knd p.2) = order.toList.map fun i => (es.map (·.1)).getD i 0 := by
  have sz : es.size = L.length := by rw [← Array.length_toList, hr, List.length_map]
  have at_ : ∀ i : Nat, es[i]? = (L[i]?).map fun (p : Addr × List K) => (tupleKeyHash knd p.2, Value.ref p.1) := fun i => by rw [← Array.getElem?_toList, hr, List.getElem?_map]
  refine ⟨order.toList.filterMap fun i => L[i]?, ?_, ?_, ?_⟩
  · rw [Array.toList_filterMap, List.map_filterMap]
    congr 1
    funext i
    exact at_ i
  · refine (pm.filterMap _).trans (List.Perm.of_eq ?_)
    have go : ∀ n, n ≤ L.length → (List.range n).filterMap (fun i => L[i]?) = L.take n := fun n => by
      induction n with
      | zero => intro _; rfl
      | succ n ih =>
        intro hn
        rw [List.range_succ, List.filterMap_append, ih (by omega), List.take_add_one]
        congr 1
        try (cases L[n]? <;> rfl)
    rw [go _ (Nat.le_refl _), List.take_length]
  · have all : ∀ i ∈ order.toList, i < L.length := fun i hi => List.mem_range.mp (pm.mem_iff.mp hi)
    generalize order.toList = l at all
    induction l with
    | nil => rfl
    | cons i l ih =>
      have hi := all i List.mem_cons_self
      rw [List.filterMap_cons_some (List.getElem?_eq_getElem hi), List.map_cons, List.map_cons, ih fun j hj => all j (List.mem_cons_of_mem _ hj)]
      have e : (es.map (·.1))[i]? = some (tupleKeyHash knd (L[i]).2) := by rw [Array.getElem?_map, at_, List.getElem?_eq_getElem hi]; rfl
      congr 1
      rw [Array.getD_eq_getD_getElem?, e]
      rfl
theorem relay_ {o : Obj} (ho : s.heap.get? a = some o) (hex : o.ExactSet) (hd : o.data = .set es ep t) (hr : es.toList = L.map fun p => (tupleKeyHash knd p.2, Value.ref p.1)) (pz : t.place.size = es.size) (dm : t.dummies = #[]) (fl : es.size ≤ t.mask)
    (nd : (L.map (·.2)).Nodup) (tup : ∀ p ∈ L, IsTupleKey knd s.heap p.2 p.1) (ld : w.params.followText "set-order" = true ∨ t.led = true) (few : L.length < 64) {wanted M : Nat} (hw : SetTable.sizeAbove wanted - 1 = M) (hM : L2.MaskOk M) (hw2 : SetTable.sizeAbove wanted ≤ 128) (hn : L.length * 5 < M * 3) {Q : Unit → Shared → Prop}
    (q : ∀ h2 Lz es2 ep2 t2, Heap.SameBut a s.heap h2 → TabT knd h2 a Lz es2 ep2 t2 → Lz.Perm L → Q () { s with heap := h2 }) : wpAny (model P w) A (setRelay a wanted) Q E s := by
  have sl : es.size = L.length := by rw [← Array.length_toList, hr, List.length_map]
  have ft : t.fits es.size = true := by
    unfold SetTable.fits SetTable.fill
    rw [dm, Bool.and_eq_true, beq_iff_eq, decide_eq_true_eq]
    exact ⟨pz, show t.place.size + 0 ≤ t.mask by omega⟩
  obtain ⟨t2, order, e, pm, T, em, el, _, ed⟩ := L2.relaid_ok t (hs := es.map (·.1)) (wanted := wanted) hw hM (by rw [Array.size_map, sl]; omega)
  rw [Array.size_map, sl] at pm
  obtain ⟨Lz, r1, r2, r3⟩ := rows_order hr order pm
  rw [← r3] at T
  have s2 : (order.filterMap (es[·]?)).size = es.size := by rw [← Array.length_toList, r1, List.length_map, r2.length_eq, sl]
  rw [L2.setRelay_eq]
  refine wpAny_bind (wpAny_setState_of ho hd ft ?_); dsimp only
  refine L2.wp_if_neg (by rw [sizeLine_eq]; omega) ?_; try refine wpAny_bind (wpAny_pure ?_)
  rw [e]; dsimp only
  refine wpAny_bind (L2.wp_if_neg (by rw [s2]; simp) ?_); try refine wpAny_bind (wpAny_pure ?_)
  refine wpAny_pure ?_; dsimp only
  refine wpAny_storeSet_of ho hd ?_ (by rw [s2, sl, sizeLine_eq]; omega)
  have sb : Heap.SameBut a s.heap (s.heap.update a (Obj.putSet (order.filterMap (es[·]?)) t2)) := Heap.SameBut.update ..
  refine q _ Lz _ (ep + 1) t2 sb ⟨⟨_, L2.store_at ho hd, ⟨hex.1, hex.2.1, hex.2.2⟩, rfl⟩, r1, T, (r2.map (·.2)).nodup_iff.mpr nd, fun p hp => key_same (tup p (r2.mem_iff.mp hp)) ho hd sb, by rw [el]; exact ld, ?_, by rw [r2.length_eq]; exact few⟩ r2
  rw [r2.length_eq, em]; exact hn
theorem add_ {b : Addr} {ks : List K} (R : TabT knd s.heap a L es ep t) (x : IsTupleKey knd s.heap ks b) (hu : A.units < cLine) (few : L.length + 1 < 64) {Q : Bool → Shared → Prop}
    (q : ∀ r h2 M es2 ep2 t2, Heap.SameBut a s.heap h2 → TabT knd h2 a M es2 ep2 t2 → (ks ∈ L.map (·.2) → M = L) → (ks ∉ L.map (·.2) → M.Perm ((b, ks) :: L)) → Q r { s with heap := h2 }) :
    wpAny (model P w) A (setAddHashed a (.ref b) (tupleKeyHash knd ks)) Q E s := by
  obtain ⟨o, ho, hex, hd⟩ := R.ob
  have sl := R.size; have room := R.room
  unfold setAddHashed
  refine wpAny_holding ?_; rw [show (100000 : Nat) = 99999 + 1 from rfl, L2.setAddHashedIn_succ]
  refine wpAny_bind (wpAny_setState_of ho hd R.fits ?_); dsimp only
  refine L2.wp_if_neg (by simp [byScan, Value.scannable]) ?_; try refine wpAny_bind (wpAny_pure ?_)
  refine wpAny_bind (srch0 R x hu (fun hm => ?_) fun N hm n2 n3 => ?_)
  · dsimp only
    exact wpAny_pure (q false s.heap L es ep t (Heap.SameBut.refl a s.heap) R (fun _ => rfl) fun z => absurd hm z)
  · dsimp only
    refine wpAny_bind (wpAny_setState_of ho hd R.fits ?_); dsimp only
    obtain ⟨q1, q2, q3, q4, q5, q6, q7, q8, q9⟩ := R.tab.put n2 n3
    generalize t.put (L2.way t.mask (tupleKeyHash knd ks) N) = pt at q1 q3 q4 q5 q6 q7 q8 q9 ⊢
    obtain ⟨t1, p⟩ := pt
    dsimp only at q1 q3 q4 q5 q6 q7 q8 q9 ⊢
    subst q1
    generalize hpp : SetTable.below t.place (L2.way t.mask (tupleKeyHash knd ks) N) = p at q2 q3 ⊢
    have pm : (L.take p ++ (b, ks) :: L.drop p).Perm ((b, ks) :: L) := by
      have h : (L.take p ++ (b, ks) :: L.drop p).Perm ((b, ks) :: (L.take p ++ L.drop p)) := List.perm_middle
      rw [List.take_append_drop] at h; exact h
    have hin : (SetTable.insertAt es p (tupleKeyHash knd ks, Value.ref b)).toList = (L.take p ++ (b, ks) :: L.drop p).map fun p => (tupleKeyHash knd p.2, Value.ref p.1) := by
      rw [SetTable.toList_insertAt, R.rows, List.map_append, List.map_cons, List.map_take, List.map_drop]
    have hhs : (L.take p ++ (b, ks) :: L.drop p).map (fun p => tupleKeyHash knd p.2) = (L.map fun p => tupleKeyHash knd p.2).take p ++ tupleKeyHash knd ks :: (L.map fun p => tupleKeyHash knd p.2).drop p := by
      rw [List.map_append, List.map_cons, List.map_take, List.map_drop]
    rw [← hhs] at q3
    have nd1 : ((L.take p ++ (b, ks) :: L.drop p).map (·.2)).Nodup := (pm.map (·.2)).nodup_iff.mpr (List.nodup_cons.mpr ⟨hm, R.nd⟩)
    have len1 : (L.take p ++ (b, ks) :: L.drop p).length = L.length + 1 := pm.length_eq
    have hes : (SetTable.insertAt es p (tupleKeyHash knd ks, Value.ref b)).size = L.length + 1 := by rw [← Array.length_toList, hin, List.length_map, len1]
    generalize SetTable.insertAt es p (tupleKeyHash knd ks, Value.ref b) = es1 at hin hes ⊢
    generalize L.take p ++ (b, ks) :: L.drop p = L1 at pm len1 q3 nd1 hin
    have main : ∀ t2 : SetTable, t2.mask = t.mask → t2.led = t.led → L2.TabOk t2 (L1.map fun p => tupleKeyHash knd p.2) → t2.fill = L.length + 1 →
        wpAny (model P w) A (do storeSet a es1 t2; if (!false && t2.tooFull) = true then do setRelay a (SetTable.grown (es.size + 1)); pure true else pure true) Q E s := by
      intro t2 m1 m2 m3 m4
      refine wpAny_bind (wpAny_storeSet_of ho hd ?_ (by rw [hes, sizeLine_eq]; omega))
      have sb : Heap.SameBut a s.heap (s.heap.update a (Obj.putSet es1 t2)) := Heap.SameBut.update ..
      have ho1 := L2.store_at (es' := es1) (t' := t2) ho hd
      generalize s.heap.update a (Obj.putSet es1 t2) = h1 at sb ho1 ⊢
      have tup1 : ∀ p ∈ L1, IsTupleKey knd h1 p.2 p.1 := fun p hp => by
        rcases List.mem_cons.mp (pm.mem_iff.mp hp) with e | hp
        · rw [e]; exact key_same x ho hd sb
        · exact key_same (R.tup p hp) ho hd sb
      have ld1 : w.params.followText "set-order" = true ∨ t2.led = true := by rw [m2]; exact R.led
      by_cases hf : t2.tooFull = true
      · refine L2.wp_if_pos (by simp [hf]) (wpAny_bind ?_)
        have hfull : (L.length + 1) * 5 ≥ t2.mask * 3 := by
          have h := hf
          unfold SetTable.tooFull at h
          rw [decide_eq_true_eq, m4] at h; exact h
        rw [sl]
        have two : (t.mask = 7 ∧ L.length = 4) ∨ (t.mask = 31 ∧ L.length = 18) := by
          rcases R.tab.mok with e | e | e
          · left; rw [m1, e] at hfull; rw [e] at room; exact ⟨e, by omega⟩
          · right; rw [m1, e] at hfull; rw [e] at room; exact ⟨e, by omega⟩
          · exfalso; rw [m1, e] at hfull; omega
        have go : ∀ M, SetTable.sizeAbove (SetTable.grown (L.length + 1)) - 1 = M → L2.MaskOk M → SetTable.sizeAbove (SetTable.grown (L.length + 1)) ≤ 128 → (L.length + 1) * 5 < M * 3 →
            wpAny (model P w) A (setRelay a (SetTable.grown (L.length + 1))) (fun _ s' => wpAny (model P w) A (pure true) Q E s') E { s with heap := h1 } := fun M g1 g2 g3 g4 =>
          relay_ (s := { s with heap := h1 }) ho1 ⟨hex.1, hex.2.1, hex.2.2⟩ rfl hin (by rw [m3.sz, List.length_map, len1, hes]) m3.dm (by rw [hes, m1]; rcases two with ⟨e, e2⟩ | ⟨e, e2⟩ <;> omega) nd1 tup1 ld1 (by rw [len1]; exact few) g1 g2 g3 (by rw [len1]; exact g4)
            fun h2 Lz es2 ep2 t3 sb2 R2 pm2 => wpAny_pure (q true h2 Lz es2 ep2 t3 (sb.trans sb2) R2 (fun z => absurd z hm) fun _ => pm2.trans pm)
        rcases two with ⟨_, e2⟩ | ⟨_, e2⟩
        · exact go 31 (by rw [e2, L2.size_20]) (.inr (.inl rfl)) (by rw [e2, L2.size_20]; decide) (by omega)
        · exact go 127 (by rw [e2, L2.size_76]) (.inr (.inr rfl)) (by rw [e2, L2.size_76]; decide) (by omega)
      · refine L2.wp_if_neg (by simp [hf]) (wpAny_pure (q true h1 L1 es1 (ep + 1) t2 sb ⟨⟨_, ho1, ⟨hex.1, hex.2.1, hex.2.2⟩, rfl⟩, hin, m3, nd1, tup1, ld1, ?_, by rw [len1]; exact few⟩ (fun z => absurd z hm) fun _ => pm))
        have h := hf
        unfold SetTable.tooFull at h
        rw [decide_eq_true_eq, m4] at h
        rw [len1]; omega
    rw [List.length_map] at q9
    have both : ∀ k : Bool, wpAny (model P w) A (do storeSet a es1 (if k = true then t1 else { t1 with plain := false }); if (!false && (if k = true then t1 else { t1 with plain := false }).tooFull) = true then do setRelay a (SetTable.grown (es.size + 1)); pure true else pure true) Q E s := fun k =>
      main _ (by cases k <;> exact q4) (by cases k <;> exact q5) (by cases k; exact ⟨q3.ris, q3.dm, q3.sz, q3.mok, q3.bd, q3.reach⟩; exact q3) (by cases k <;> exact q9)
    by_cases hp : t1.plain = true
    · exact L2.wp_if_pos hp (wpAny_bind (hbv_key x fun k => both k))
    · exact L2.wp_if_neg hp (wpAny_bind (wpAny_pure (both true)))
end
end DS

namespace DS
open PySem PySem.Spec PyProof.Rows
section
variable {P : Program} {w : World} {K : Type} [DecidableEq K] {knd : KeyKind P w K} {A : Around} {S : Addr}
structure Jtup (knd : KeyKind P w K) (S : Addr) (ps : List (Addr × List K)) (i : Nat) (h : Heap) : Prop where
  tab : ∃ M es ep t, TabT knd h S M es ep t ∧ (∀ p ∈ M, p ∈ ps) ∧ (∀ k, k ∈ M.map (·.2) ↔ k ∈ (ps.take i).map (·.2)) ∧ M.length ≤ i
  all : ∀ p ∈ ps, IsTupleKey knd h p.2 p.1 ∧ p.1 < S
theorem Jtup.keep {ps : List (Addr × List K)} {i : Nat} {h h2 : Heap} (j : Jtup knd S ps i h) (k : ∀ b o, b ≤ S → h.get? b = some o → h2.get? b = some o) : Jtup knd S ps i h2 := by
  have mv : ∀ p ∈ ps, IsTupleKey knd h2 p.2 p.1 := fun p hp => by
    obtain ⟨⟨o, its, n, h1, h3⟩, lt⟩ := j.all p hp
    exact ⟨o, its, n, k _ o (Nat.le_of_lt lt) h1, h3⟩
  obtain ⟨M, es, ep, t, R, m1, m2, m3⟩ := j.tab
  obtain ⟨o, o1, o2⟩ := R.ob
  exact ⟨⟨M, es, ep, t, ⟨⟨o, k _ o (Nat.le_refl _) o1, o2⟩, R.rows, R.tab, R.nd, fun p hp => mv p (m1 p hp), R.led, R.room, R.few⟩, m1, m2, m3⟩, fun p hp => ⟨mv p hp, (j.all p hp).2⟩⟩
def FewK {K : Type} (l : List (List K)) : Prop := ∀ M : List (List K), M.Nodup → (∀ k ∈ M, k ∈ l) → M.length < 63
theorem adds_tup {ps : List (Addr × List K)} {Pv : Nat → Value → Prop} (hv : ∀ i v, Pv i v → ∃ p, v = .ref p.1 ∧ ps[i]? = some p) (few : FewK (ps.map (·.2))) (hu : A.units < cLine) : AddsJ P w A S ps.length Pv (Jtup knd S ps) := by
  intro i v s1 Q E hi pv j q
  obtain ⟨p, rfl, ep⟩ := hv i v pv
  have pm : p ∈ ps := List.mem_of_getElem? ep
  obtain ⟨M, es, ep', t, R, m1, m2, m3⟩ := j.tab
  have key := (j.all p pm).1
  unfold setAdd
  refine wpAny_holding (wpAny_bind (wpAny_pyHash_tuple hu key ?_))
  have fw := few (M.map (·.2)) R.nd fun k hk => (by obtain ⟨x, hx, e⟩ := List.mem_map.mp hk; exact e ▸ List.mem_map_of_mem (m1 x hx))
  rw [List.length_map] at fw
  refine add_ (s := { s1 with toks := s1.toks + (p.2.length + 1) }) R key hu (by omega) fun r h2 M2 es2 ep2 t2 sb R2 c1 c2 => ?_
  refine q r h2 _ sb ?_ (Nat.le_add_right _ _)
  have all2 : ∀ x ∈ ps, IsTupleKey knd h2 x.2 x.1 ∧ x.1 < S := fun x hx => by
    obtain ⟨o, o1, _, o3⟩ := R.ob
    exact ⟨key_same (j.all x hx).1 o1 o3 sb, (j.all x hx).2⟩
  have tk : (ps.take (i + 1)).map (·.2) = (ps.take i).map (·.2) ++ [p.2] := by rw [List.take_add_one, ep, List.map_append]; rfl
  refine ⟨⟨M2, es2, ep2, t2, R2, ?_⟩, all2⟩
  by_cases c : p.2 ∈ M.map (·.2)
  · rw [c1 c]
    refine ⟨m1, fun k => ?_, by omega⟩
    rw [tk, List.mem_append, List.mem_singleton, m2]
    exact ⟨.inl, fun z => z.elim id fun e => e ▸ (m2 _).mp c⟩
  · have pe := c2 c
    refine ⟨fun x hx => ?_, fun k => ?_, by rw [pe.length_eq]; simp; omega⟩
    · rcases List.mem_cons.mp (pe.mem_iff.mp hx) with e | hx
      · rw [e]; exact pm
      · exact m1 x hx
    · rw [tk, List.mem_append, List.mem_singleton, ← m2, (pe.map (·.2)).mem_iff, List.map_cons, List.mem_cons]
      exact Or.comm
theorem tab_fresh {h : Heap} {led : Bool} (e : w.params.followText "set-order" = true ∨ led = true) (o : h.get? S = some (newS led)) : TabT knd h S [] #[] 0 (.fresh 0 0 led) where
  ob := ⟨_, o, ⟨rfl, rfl, rfl⟩, rfl⟩
  rows := rfl
  tab := by
    refine ⟨?_, rfl, rfl, .inl rfl, fun x hx => ?_, fun i h j hi => ?_⟩
    · exact List.Pairwise.nil
    · cases hx
    · cases hi
  nd := List.nodup_nil
  tup := fun _ z => (by cases z)
  led := e
  room := (by decide : 0 * 5 < 7 * 3)
  few := (by decide : 0 < 64)
end
end DS

namespace DS
open PySem PySem.Spec PyProof.Rows
section
variable {P : Program} {w : World} {A : Around} {E : Value → Shared → Prop} {s : Shared}
theorem set_strs {l : Addr} {items : Array Value} {xs : List Str} {Q : Value → Shared → Prop} (hh : A.handled = none) (hl : s.heap.IsList l items) (hi : StrsAre items.toList xs) (hb : xs.length + 1 < scanBound) (hz : items.size = xs.length)
    (at_ : ∀ (i : Nat) (v : Value), items[i]? = some v → ∃ (x : Str) (t : Tok), v = Value.str x t ∧ xs[i]? = some x)
    (fin : ∀ (h2 : Heap) (tk : Nat) (es : List Str), es.Nodup → (∀ x, x ∈ es ↔ x ∈ xs) → h2.SetOf (PySem.strKind P w) s.heap.objs.size (fun k => decide (k ∈ es)) es.length → (∀ b o, b < s.heap.objs.size → s.heap.get? b = some o → h2.get? b = some o) → Q (.ref s.heap.objs.size) { s with heap := h2, toks := tk }) :
    wpAny (model P w) A (call (.type "set") [.ref l]) Q E s := by
  refine set_callJ (J := Jstr P w s.heap.objs.size xs) hh hl (fun led _ => ⟨[], List.nodup_nil, fun x => by simp, ?_⟩) (fun i h h2 j k => j.at fun o e => k _ o (Nat.ne_of_lt (Nat.lt_succ_self _)) e) (by rw [hz]; exact adds_str at_ hb) fun h2 tk j k => ?_
  · exact SetOf_congr ((setObjOf_fresh (knd := PySem.strKind P w) led).setOf (Heap.get?_push_of_some _ (Heap.get?_push_size _ rfl)) (by decide)) (fun _ => rfl) rfl
  · obtain ⟨es, nd, mem, hS⟩ := j
    rw [hz, List.take_length] at mem
    exact fin h2 tk es nd mem hS k
theorem set_tups {K : Type} [DecidableEq K] {knd : KeyKind P w K} {l : Addr} {items : Array Value} {ps : List (Addr × List K)} {Q : Value → Shared → Prop} (hh : A.handled = none) (hl : s.heap.IsList l items) (few : FewK (ps.map (·.2))) (hz : items.size = ps.length) (hu : A.in1.in1.in1.units < cLine)
    (at_ : ∀ (i : Nat) (v : Value), items[i]? = some v → ∃ p, v = Value.ref p.1 ∧ ps[i]? = some p) (keys : ∀ p ∈ ps, IsTupleKey knd s.heap p.2 p.1)
    (fin : ∀ (h2 : Heap) (tk : Nat) (M : List (Addr × List K)) (es : Array (Int × Value)) (ep : Nat) (t : SetTable), TabT knd h2 s.heap.objs.size M es ep t → (∀ k, k ∈ M.map (·.2) ↔ k ∈ ps.map (·.2)) → (∀ b o, b < s.heap.objs.size → s.heap.get? b = some o → h2.get? b = some o) → Q (.ref s.heap.objs.size) { s with heap := h2, toks := tk }) :
    wpAny (model P w) A (call (.type "set") [.ref l]) Q E s := by
  refine set_callJ (J := Jtup knd s.heap.objs.size ps) hh hl (fun led ok => ⟨⟨[], #[], 0, _, tab_fresh ok (Heap.get?_push_of_some _ (Heap.get?_push_size _ rfl)), fun _ z => (by cases z), fun k => by simp, Nat.le_refl _⟩, fun p hp => ?_⟩)
    (fun i h h2 j k => j.keep fun b o le e => k b o (Nat.ne_of_lt (Nat.lt_succ_of_le le)) e) (by rw [hz]; exact adds_tup at_ few hu) fun h2 tk j k => ?_
  · obtain ⟨o, its, n, h1, h3⟩ := keys p hp
    exact ⟨⟨o, its, n, Heap.get?_push_of_some _ (Heap.get?_push_of_some _ h1), h3⟩, Heap.lt_size h1⟩
  · obtain ⟨M, es, ep, t, R, _, mem, _⟩ := j.tab
    rw [hz, List.take_length] at mem
    exact fin h2 tk M es ep t R mem k
end
end DS

namespace DS
open PySem PySem.Spec PyProof.Rows L2
def tLS (K : PySem.W.Frag) (ta : TE) : TE := fun σ H Q => ta σ H fun x H1 => ∃ l, x = .ref l ∧
  ((∃ xs : List Str, SqL K H1 l (xs.map V.str) ∧ xs.length < 4000 ∧ ∀ es : List Str, es.Nodup → (∀ x, x ∈ es ↔ x ∈ xs) → Q (.int es.length) H1) ∨
   ∃ ps : List (Addr × List Key), SqL K H1 l (ps.map fun p => V.ref p.1) ∧ (∀ p ∈ ps, SqT K H1 p.1 (p.2.map kV)) ∧ FewK (ps.map (·.2)) ∧ ∀ M : List (List Key), M.Nodup → (∀ k, k ∈ M ↔ k ∈ ps.map (·.2)) → Q (.int M.length) H1)
theorem items_keys {P : Program} {w : World} : ∀ {ks : List Key} {us : List Value}, Vals (ks.map kV) us → ItemsAre (mixKind P w) ks us
  | [], us, r => by cases r; exact .nil
  | k :: ks, us, r => by
    cases r with
    | cons r1 r2 => exact .cons (by cases k <;> (obtain ⟨t, rfl⟩ := r1; simp [mixKind, keyIs, Value.isInt, Value.isStrOf])) (items_keys r2)
theorem strs_at : ∀ {vs : List Value} {xs : List Str}, StrsAre vs xs → ∀ (i : Nat) (v : Value), vs[i]? = some v → ∃ (x : Str) (t : Tok), v = Value.str x t ∧ xs[i]? = some x
  | _, _, .nil, i, v, h => by simp at h
  | _, _, .cons x t r, 0, v, h => ⟨x, t, by simpa using h.symm, rfl⟩
  | _, _, .cons x t r, i + 1, v, h => strs_at r i v (by simpa using h)
section
variable {X : Cx} {a : Expr} {ta : TE} {p p2 q pos : Pos}
theorem pe_LS (hu : X.A.units + 200 < cLine) (hc : X.calm = true) (hg : Gl X "len") (hm : X.mg "len" = none) (hg2 : Gl X "set") (hm2 : X.mg "set" = none) (ha : PE X a ta)
    (na : starEach [a] X.env = (false, eval a X.env) :: starEach [] X.env := by rfl) : PE X (.Call (.Name "len" p) [.Call (.Name "set" p2) [a] [] q] [] pos) (tLS X.K ta) := by
  refine ⟨fun pins s σ H Q I h => Call_ (ld_blt I hg hm boot_len (callWith_builtin1 (args_cons (Call_ (ld_blt I hg2 hm2 boot_set (callWith_type1 (args_cons (thn (ha.run pins s σ H _ I h) fun v s1 ⟨x, H1, I1, r1, q1⟩ => args_nil ?_) na) na rfl))) rfl) rfl rfl))⟩
  obtain ⟨l, rfl, q1⟩ := q1
  cases r1
  rcases q1 with ⟨xs, hq, hz, q1⟩ | ⟨ps, hq, hk, few, q1⟩
  · obtain ⟨its, r, pl, hz2⟩ := I1.list hq
    have sa := strsAre_of r
    have ln : its.toArray.size = xs.length := by rw [List.size_toArray, ← r.length, List.length_map]
    refine set_strs (xs := xs) (I1.ok.hd hc) pl.isList (by simpa using sa) (by unfold scanBound; omega) ln (fun i v hv => ?_) fun h2 tk es nd mem hS k => ?_
    · exact strs_at sa i v (by simpa using hv)
    · obtain ⟨o, e2, ep, t, ho, hex, hd, _, _, bd, hf, hn⟩ := hS
      have I2 : Inv X pins σ H1 { s1 with heap := h2, toks := tk } := I1.kept fun b o e => k b o (Heap.lt_size e) e
      exact args_nil (call_len_set ho hex hd hf (by unfold scanBound at bd; omega) ⟨.int es.length, H1, I2.tok _, ⟨_, by rw [hn]⟩, q1 es nd mem⟩)
  · obtain ⟨its, r, pl, hz2⟩ := I1.list hq
    have refs : ∀ {qs : List (Addr × List Key)} {us : List Value}, Vals (qs.map fun p => V.ref p.1) us → us = qs.map fun p => Value.ref p.1 := fun {qs} => by
      induction qs with
      | nil => intro us r; cases r; rfl
      | cons z qs ih =>
        intro us r
        cases r with
        | cons r1 r2 => cases r1; rw [ih r2]; rfl
    have er := refs r
    subst er
    refine set_tups (knd := mixKind X.prog X.w) (ps := ps) (I1.ok.hd hc) pl.isList few (by simp) (show X.A.units + 1 + 1 + 1 < cLine by omega) (fun i v hv => ?_) (fun p hp => ?_) fun h2 tk M es ep t R mem k => ?_
    · have hv2 : (ps.map fun p => Value.ref p.1)[i]? = some v := by simpa using hv
      rw [List.getElem?_map] at hv2
      cases e : ps[i]? with
      | none => rw [e] at hv2; cases hv2
      | some p => rw [e] at hv2; cases hv2; exact ⟨p, rfl, rfl⟩
    · obtain ⟨it2, r2, ⟨o, ho, hcl, n, hd⟩, _⟩ := I1.tuple (hk p hp)
      exact ⟨o, it2.toArray, n, ho, hcl, hd, by simpa using items_keys r2⟩
    · have fs := R.fits
      have sz := R.size
      have fw := R.few
      obtain ⟨o, ho, hex, hd⟩ := R.ob
      have I2 : Inv X pins σ H1 { s1 with heap := h2, toks := tk } := I1.kept fun b o e => k b o (Heap.lt_size e) e
      exact args_nil (call_len_set ho hex hd fs (by omega) ⟨.int (M.map (·.2)).length, H1, I2.tok _, ⟨_, by rw [sz, List.length_map]⟩, q1 _ R.nd mem⟩)
end
end DS

namespace DS
open PySem PySem.Spec PyProof.Rows L2
def rowsD : List D → Option (List (List KD))
  | [] => some []
  | .tup xs :: ds => match keysD xs, rowsD ds with
    | some k, some ks => some (k :: ks)
    | _, _ => none
  | _ :: _ => none
/-- len(set(x)) -/
def lenSetQ (d : D) (O : OS) (Q : DQ) : Prop := match d with
  | .lst ds => (∃ xs, strsD ds = some xs ∧ xs.length < 4000 ∧ ∀ E : List (List Nat), E.Nodup → (∀ x, x ∈ E ↔ x ∈ xs) → Q (.int E.length) O) ∨ ∃ ks, rowsD ds = some ks ∧ FewK ks ∧ ∀ E : List (List KD), E.Nodup → (∀ x, x ∈ E ↔ x ∈ ks) → Q (.int E.length) O
  | _ => False
def dLenSet (te : DTE) : DTE := fun ρ O Q => te ρ O fun d O1 => lenSetQ (vw O1 d) O1 Q
theorem nodup_back {α β : Type} [DecidableEq α] {f : α → β} (g : β → α) {bs : List β} {as : List α} (gf : ∀ a, g (f a) = a) (nd : bs.Nodup) (mem : ∀ b, b ∈ bs ↔ b ∈ as.map f) :
    (bs.map g).Nodup ∧ (∀ a, a ∈ bs.map g ↔ a ∈ as) ∧ (bs.map g).length = bs.length := by
  have im : ∀ b ∈ bs, f (g b) = b := fun b hb => by
    obtain ⟨a, _, rfl⟩ := List.mem_map.mp ((mem b).mp hb)
    rw [gf]
  refine ⟨?_, fun a => ⟨fun h => ?_, fun h => ?_⟩, List.length_map ..⟩
  · clear mem
    induction bs with
    | nil => exact List.nodup_nil
    | cons b bs ih =>
      obtain ⟨h1, h2⟩ := List.nodup_cons.mp nd
      rw [List.map_cons]
      refine List.nodup_cons.mpr ⟨fun h => ?_, ih h2 fun c hc => im c (List.mem_cons_of_mem _ hc)⟩
      obtain ⟨c, hc, e⟩ := List.mem_map.mp h
      have e2 := congrArg f e
      rw [im c (List.mem_cons_of_mem _ hc), im b (List.mem_cons_self ..)] at e2
      exact h1 (e2 ▸ hc)
  · obtain ⟨b, hb, rfl⟩ := List.mem_map.mp h
    obtain ⟨a, ha, e⟩ := List.mem_map.mp ((mem b).mp hb)
    rw [← e, gf]; exact ha
  · exact List.mem_map.mpr ⟨f a, (mem _).mpr (List.mem_map_of_mem h), gf a⟩
def uk : Key → KD
  | .inl n => .i n
  | .inr s => .s (cd s)
theorem uk_kk (k : KD) : uk (kk k) = k := by
  cases k with
  | i n => rfl
  | s cs => show KD.s (cd (tx cs)) = _; rw [cd_tx]
theorem uks_kks (ks : List KD) : (ks.map kk).map uk = ks := by
  rw [List.map_map]
  conv => rhs; rw [← List.map_id ks]
  exact List.map_congr_left fun k _ => uk_kk k
theorem rows_at {K : PySem.W.Frag} {F : Hp} : ∀ {ds : List D} {ks : List (List KD)} {vs : List V}, rowsD ds = some ks → Iss K F ds vs →
    ∃ ps : List (Addr × List Key), vs = ps.map (fun p => V.ref p.1) ∧ (∀ p ∈ ps, F p.1 = some (.tup (p.2.map kV))) ∧ ps.map (·.2) = ks.map (fun k => k.map kk)
  | [], ks, vs, h, g => by
    cases h; simp only [Iss] at g; subst g
    exact ⟨[], rfl, (fun p hp => nomatch hp), rfl⟩
  | d :: ds, ks, vs, h, g => by
    simp only [Iss] at g
    obtain ⟨v, r, rfl, h2, h3⟩ := g
    cases d with
    | tup xs =>
      unfold rowsD at h
      cases e1 : keysD xs with
      | none => rw [e1] at h; cases h
      | some k =>
        cases e2 : rowsD ds with
        | none => rw [e1, e2] at h; cases h
        | some ks' =>
          rw [e1, e2] at h
          cases h
          obtain ⟨ps, rfl, h5, h6⟩ := rows_at e2 h3
          simp only [Is] at h2
          obtain ⟨b, ws, rfl, h7, h8, _⟩ := h2
          rw [keysD_is e1 h8] at h7
          exact ⟨(b, k.map kk) :: ps, rfl, List.forall_mem_cons.mpr ⟨h7, h5⟩, by rw [List.map_cons, List.map_cons, h6]⟩
    | _ => cases h
section
variable {X : Cx} {F0 : Bs} {a : Expr} {te : DTE} {p p2 q pos : Pos} {k : Nat}
theorem de_lenSet (hr : Room k X.A) (hc : X.calm = true) (hg : Gl X "len") (hm : X.mg "len" = none) (hg2 : Gl X "set") (hm2 : X.mg "set" = none) (ha : DE X F0 a te)
    (na : starEach [a] X.env = (false, eval a X.env) :: starEach [] X.env := by rfl) :
    DE X F0 (.Call (.Name "len" p) [.Call (.Name "set" p2) [a] [] q] [] pos) (dLenSet te) := PE.imp (pe_LS (un200 hr) hc hg hm hg2 hm2 ha na) fun σ H Q h => by
  obtain ⟨Z, ρ, O, F, Qd, at_, h, cv⟩ := h
  refine ⟨_, ρ, O, F, _, at_, h, fun x O1 F1 H1 vx r1 e1 i1 h1 => ?_⟩
  have iv := r1.view i1
  unfold lenSetQ at h1
  split at h1
  · rename_i ds e
    rw [e] at iv
    obtain ⟨l, vs, rfl, hH, hI, hz⟩ := iv
    refine ⟨l, rfl, ?_⟩
    rcases h1 with ⟨xs, e2, few, h1⟩ | ⟨ks, e2, few, h1⟩
    · obtain ⟨rfl, _⟩ := strsD_is e2 hI
      refine .inl ⟨xs.map tx, .inl (.inl hH), by rw [List.length_map]; exact few, fun es nd mem => ?_⟩
      obtain ⟨n1, m1, l1⟩ := nodup_back (f := tx) cd cd_tx nd mem
      rw [← l1]
      exact cv _ O1 F1 H1 _ r1 e1 (by simp only [Is]) (h1 _ n1 m1)
    · obtain ⟨ps, rfl, h5, h6⟩ := rows_at e2 hI
      have few2 : FewK (ps.map (·.2)) := fun M nd sub => by
        rw [h6] at sub
        have bk : ∀ k ∈ M, (k.map uk) ∈ ks ∧ (k.map uk).map kk = k := fun k hk => by
          obtain ⟨j, hj, rfl⟩ := List.mem_map.mp (sub k hk)
          exact ⟨by rw [uks_kks]; exact hj, by rw [uks_kks]⟩
        have nd2 : (M.map fun k => k.map uk).Nodup := by
          clear sub
          induction M with
          | nil => exact List.nodup_nil
          | cons k M ih =>
            obtain ⟨n1, n2⟩ := List.nodup_cons.mp nd
            rw [List.map_cons]
            refine List.nodup_cons.mpr ⟨fun z => ?_, ih n2 fun x hx => bk x (List.mem_cons_of_mem _ hx)⟩
            obtain ⟨x, hx, e⟩ := List.mem_map.mp z
            have q := (bk k List.mem_cons_self).2
            rw [← e, (bk x (List.mem_cons_of_mem _ hx)).2] at q
            exact n1 (q ▸ hx)
        have := few _ nd2 fun x hx => by
          obtain ⟨k, hk, rfl⟩ := List.mem_map.mp hx
          exact (bk k hk).1
        rwa [List.length_map] at this
      refine .inr ⟨ps, .inl (.inl hH), fun p hp => .inl (.inl (r1.sub _ _ (h5 p hp))), few2, fun M nd mem => ?_⟩
      rw [h6] at mem
      obtain ⟨n1, m1, l1⟩ := nodup_back (f := fun k : List KD => k.map kk) (fun k => k.map uk) uks_kks nd mem
      rw [← l1]
      exact cv _ O1 F1 H1 _ r1 e1 (by simp only [Is]) (h1 _ n1 m1)
  · exact h1.elim
end
end DS

namespace DS
open PySem PySem.Spec PyProof.Rows L2

/-! ### names, terms, their texts -/
def ltr (c : Nat) : Bool := decide (c ∈ [97, 98, 99, 100, 101, 102, 103, 104, 105, 106, 107, 108, 109, 110, 111, 112, 113, 114, 115, 116, 117, 118, 119, 120, 121, 122])
def isNm (cs : List Nat) : Bool := decide (1 ≤ cs.length) && decide (cs.length ≤ 8) && cs.all ltr
inductive Trm where
  | mk (n : List Nat) (ps : List Trm)
def Trm.nm : Trm → List Nat
  | .mk n _ => n
def Trm.ps : Trm → List Trm
  | .mk _ ps => ps
mutual
def tD : Trm → D
  | .mk n ps => .tup (.str n :: tDs ps)
def tDs : List Trm → List D
  | [] => []
  | t :: ts => tD t :: tDs ts
end
mutual
def tdep : Trm → Nat
  | .mk _ ps => tdeps ps + 1
def tdeps : List Trm → Nat
  | [] => 0
  | t :: ts => max (tdep t) (tdeps ts)
end
-- each name a name, at most three parts
mutual
def Trm.ok : Trm → Bool
  | .mk n ps => isNm n && decide (ps.length ≤ 3) && Trm.oks ps
def Trm.oks : List Trm → Bool
  | [] => true
  | t :: ts => Trm.ok t && Trm.oks ts
end
mutual
def subs : Trm → List Trm
  | .mk n ps => subss ps ++ [.mk n ps]
def subss : List Trm → List Trm
  | [] => []
  | t :: ts => subs t ++ subss ts
end
mutual
def txt : Trm → List Nat
  | .mk n ps => if ps.isEmpty then n else n ++ ([40] ++ joinD [44] (txts ps) ++ [41])
def txts : List Trm → List (List Nat)
  | [] => []
  | t :: ts => txt t :: txts ts
end
theorem txts_eq : ∀ ts : List Trm, txts ts = ts.map txt
  | [] => rfl
  | t :: ts => by rw [txts, txts_eq ts]; rfl
theorem tDs_eq : ∀ ts : List Trm, tDs ts = ts.map tD
  | [] => rfl
  | t :: ts => by rw [tDs, tDs_eq ts]; rfl
theorem tDs_len (ts : List Trm) : (tDs ts).length = ts.length := by rw [tDs_eq, List.length_map]
theorem tdeps_le : ∀ {ts : List Trm} {n : Nat}, tdeps ts ≤ n ↔ ∀ t ∈ ts, tdep t ≤ n
  | [], n => by simp [tdeps]
  | t :: ts, n => by
    rw [tdeps]
    have := tdeps_le (ts := ts) (n := n)
    simp only [List.mem_cons, forall_eq_or_imp]
    rw [← this]
    omega
theorem oks_all : ∀ {ts : List Trm}, Trm.oks ts = true ↔ ∀ t ∈ ts, t.ok = true
  | [] => by simp [Trm.oks]
  | t :: ts => by
    rw [Trm.oks, Bool.and_eq_true, oks_all (ts := ts)]
    simp only [List.mem_cons, forall_eq_or_imp]
theorem subss_app : ∀ (a b : List Trm), subss (a ++ b) = subss a ++ subss b
  | [], b => by simp [subss]
  | t :: a, b => by rw [List.cons_append, subss, subss, subss_app a b, List.append_assoc]
theorem subss_one (t : Trm) : subss [t] = subs t := by simp [subss]
theorem subss_le {ps : List Trm} {t : Trm} (h : t ∈ ps) : (subs t).length ≤ (subss ps).length := by
  obtain ⟨a, b, rfl⟩ := List.append_of_mem h
  rw [subss_app, subss, List.length_append, List.length_append]
  omega
theorem subss_take (ps : List Trm) (i : Nat) : (subss (ps.take i)).length ≤ (subss ps).length := by
  have h := subss_app (ps.take i) (ps.drop i)
  rw [List.take_append_drop] at h
  rw [h, List.length_append]
  omega
theorem joinD_len_eq : ∀ {xs : List (List Nat)}, xs ≠ [] → (joinD [44] xs).length + 1 = (xs.map List.length).sum + xs.length
  | [], h => absurd rfl h
  | [x], _ => by simp [joinD]
  | x :: y :: r, _ => by
    have := joinD_len_eq (xs := y :: r) (by simp)
    simp only [joinD, List.length_append, List.map_cons, List.sum_cons, List.length_cons, List.length_nil] at this ⊢
    omega
theorem sum_mem {xs : List (List Nat)} {x : List Nat} (h : x ∈ xs) : x.length ≤ (xs.map List.length).sum := by
  obtain ⟨a, b, rfl⟩ := List.append_of_mem h
  simp only [List.map_append, List.sum_append, List.map_cons, List.sum_cons]
  omega
theorem txt_cons {n : List Nat} {ps : List Trm} (h : ps ≠ []) : txt (.mk n ps) = n ++ ([40] ++ joinD [44] (ps.map txt) ++ [41]) := by
  rw [txt, if_neg (by simpa using h), txts_eq]
theorem txt_part {n : List Nat} {ps : List Trm} {t : Trm} (h : t ∈ ps) : (txt t).length + 2 + n.length ≤ (txt (.mk n ps)).length := by
  have hne : ps ≠ [] := fun e => by rw [e] at h; cases h
  rw [txt_cons hne]
  have e := joinD_len_eq (xs := ps.map txt) (by simpa using hne)
  have m := sum_mem (List.mem_map.mpr ⟨t, h, rfl⟩ : txt t ∈ ps.map txt)
  have l : 1 ≤ (ps.map txt).length := by rw [List.length_map]; exact List.length_pos_iff.mpr hne
  simp only [List.length_append, List.length_cons, List.length_nil] at e ⊢
  omega
/-- rows of a term; the places told -/
def rowT (t : Trm) : List Nat × Int := (t.nm, t.ps.length)
def rowD' (r : List Nat × Int) : D := .tup [.str r.1, .int r.2]
def told : List (List Nat × Int) → List (KD × D) → Option (List (KD × D))
  | [], acc => some acc
  | (n, c) :: l, acc => match kget acc (.s n) with
    | some d => if deq d (.int c) then told l acc else none
    | none => told l (kput acc (.s n) (.int c))
def toldD : Option (List (KD × D)) → D
  | some kds => .dic kds
  | none => .non
theorem kput_new {κ : Type} [DecidableEq κ] {k : κ} {e : D} : ∀ {ds : List (κ × D)}, kget ds k = none → kput ds k e = ds ++ [(k, e)]
  | [], _ => rfl
  | (k', d) :: r, h => by
    unfold kget at h
    by_cases c : k' = k
    · rw [if_pos c] at h; cases h
    · rw [if_neg c] at h
      unfold kput
      rw [if_neg c, kput_new h]
      rfl
theorem kget_notin {κ : Type} [DecidableEq κ] {k : κ} : ∀ {ds : List (κ × D)}, kget ds k = none → k ∉ ds.map (·.1)
  | [], _ => by simp
  | (k', d) :: r, h => by
    unfold kget at h
    by_cases c : k' = k
    · rw [if_pos c] at h; cases h
    · rw [if_neg c] at h
      have := kget_notin h
      simp only [List.map_cons, List.mem_cons, not_or]
      exact ⟨fun z => c z.symm, this⟩
theorem kget_mem {κ : Type} [DecidableEq κ] {k : κ} {d : D} : ∀ {ds : List (κ × D)}, kget ds k = some d → (k, d) ∈ ds
  | [], h => by cases h
  | (k', d') :: r, h => by
    unfold kget at h
    by_cases c : k' = k
    · rw [if_pos c] at h; cases h; rw [c]; exact List.mem_cons_self
    · rw [if_neg c] at h; exact List.mem_cons_of_mem _ (kget_mem h)
theorem kput_nodup {κ : Type} [DecidableEq κ] {k : κ} {e : D} {ds : List (κ × D)} (h : kget ds k = none) (n : (ds.map (·.1)).Nodup) : ((kput ds k e).map (·.1)).Nodup := by
  rw [kput_new h, List.map_append, List.nodup_append]
  refine ⟨n, by simp, fun a ha b hb => ?_⟩
  simp only [List.map_cons, List.map_nil, List.mem_singleton] at hb
  subst hb
  intro z
  subst z
  exact kget_notin h ha
mutual
theorem plain_tD : ∀ t : Trm, plain (tD t) = true
  | .mk n ps => by rw [tD, plain, plains, plains_tDs ps]; rfl
theorem plains_tDs : ∀ ts : List Trm, plains (tDs ts) = true
  | [] => by rw [tDs, plains]
  | t :: ts => by rw [tDs, plains, plain_tD t, plains_tDs ts]; rfl
end
theorem plains_tD (ts : List Trm) : plains (ts.map tD) = true := by rw [← tDs_eq]; exact plains_tDs ts
mutual
theorem dep_tD : ∀ t : Trm, dep (tD t) = tdep t
  | .mk n ps => by rw [tD, dep, deps, deps_tDs ps, tdep, show dep (.str n) = 0 by simp [dep]]; simp
theorem deps_tDs : ∀ ts : List Trm, deps (tDs ts) = tdeps ts
  | [] => by rw [tDs, deps, tdeps]
  | t :: ts => by rw [tDs, deps, dep_tD t, deps_tDs ts, tdeps]
end
theorem deqs_nil (ts : List Trm) : deqs (ts.map tD) [] = ts.isEmpty := by
  cases ts with
  | nil => rfl
  | cons t ts => rfl
end DS

namespace DS
open PySem PySem.Spec PyProof.Rows L2

/-! ### how readings are met -/
theorem Tgt.to_mono {t : Tgt} {d : D} {ρ : Env'} {k k' : Env' → Prop} (i : ∀ ρ2, k ρ2 → k' ρ2) (h : t.to d ρ k) : t.to d ρ k' := by
  cases t with
  | one j => exact i _ h
  | many js =>
    cases d with
    | tup ds => exact ⟨h.1, i _ h.2⟩
    | _ => exact h
/-- a comprehension that changes nothing -/
theorem lc_pure {ti : DTI} {tg : Tgt} {vs : List Nat} {tt : DTT} {te : DTE} {fin : List D → OS → DQ → Prop} {ρ : Env'} {O : OS} {Q : DQ} (its : List D) (p : D → Bool) (f : D → D)
    (hti : ∀ R : DRI, (∀ keep : OS → Prop, keep O → R its keep O) → ti ρ O R)
    (hd : ∀ d ∈ its, tg.to d (blank ρ vs) fun ρ2 => (∀ k : Bool → OS → Prop, k (p d) O → tt ρ2 O k) ∧ (p d = true → ∀ k : DQ, k (f d) O → te ρ2 O k))
    (hq : fin ((its.filter p).map f) O Q) : dLcW ti tg vs tt te fin ρ O Q := by
  refine hti _ fun keep hk => ⟨fun i acc O' => O' = O ∧ acc = ((its.take i).filter p).map f, ⟨rfl, by simp⟩, fun i acc O' _ h => by rw [h.1]; exact hk, fun i d acc O' e h => ?_, fun acc O' h => ?_⟩
  · obtain ⟨rfl, rfl⟩ := h
    have hm : d ∈ its := List.mem_of_getElem? e
    refine Tgt.to_mono (fun ρ2 z => ?_) (hd d hm)
    have et : its.take (i + 1) = its.take i ++ [d] := by rw [List.take_add_one, e]; rfl
    refine z.1 _ ?_
    cases hp : p d with
    | true =>
      rw [if_pos rfl]
      refine z.2 hp _ ⟨rfl, ?_⟩
      rw [et, List.filter_append, List.map_append]
      simp [hp]
    | false =>
      rw [if_neg (by decide)]
      refine ⟨rfl, ?_⟩
      rw [et, List.filter_append, List.map_append]
      simp [hp]
  · obtain ⟨rfl, rfl⟩ := h
    rw [List.take_length]
    exact hq
/-- the same, without a test -/
theorem lc_map {ti : DTI} {tg : Tgt} {vs : List Nat} {te : DTE} {fin : List D → OS → DQ → Prop} {ρ : Env'} {O : OS} {Q : DQ} (its : List D) (f : D → D)
    (hti : ∀ R : DRI, (∀ keep : OS → Prop, keep O → R its keep O) → ti ρ O R)
    (hd : ∀ d ∈ its, tg.to d (blank ρ vs) fun ρ2 => ∀ k : DQ, k (f d) O → te ρ2 O k)
    (hq : fin (its.map f) O Q) : dLcW ti tg vs tYesD te fin ρ O Q := by
  refine lc_pure its (fun _ => true) f hti (fun d m => Tgt.to_mono (fun ρ2 z => ⟨fun k h => h, fun _ => z⟩) (hd d m)) ?_
  have : its.filter (fun _ => true) = its := by simp
  rw [this]; exact hq
theorem lc_pureA {α : Type} {ti : DTI} {tg : Tgt} {vs : List Nat} {tt : DTT} {te : DTE} {fin : List D → OS → DQ → Prop} {ρ : Env'} {O : OS} {Q : DQ} (l : List α) (e : α → D) (p : α → Bool) (f : α → D)
    (hti : ∀ R : DRI, (∀ keep : OS → Prop, keep O → R (l.map e) keep O) → ti ρ O R)
    (hd : ∀ a ∈ l, tg.to (e a) (blank ρ vs) fun ρ2 => (∀ k : Bool → OS → Prop, k (p a) O → tt ρ2 O k) ∧ (p a = true → ∀ k : DQ, k (f a) O → te ρ2 O k))
    (hq : fin ((l.filter p).map f) O Q) : dLcW ti tg vs tt te fin ρ O Q := by
  refine hti _ fun keep hk => ⟨fun i acc O' => O' = O ∧ acc = ((l.take i).filter p).map f, ⟨rfl, by simp⟩, fun i acc O' _ h => by rw [h.1]; exact hk, fun i d acc O' ei h => ?_, fun acc O' h => ?_⟩
  · obtain ⟨rfl, rfl⟩ := h
    rw [List.getElem?_map] at ei
    cases ea : l[i]? with
    | none => rw [ea] at ei; cases ei
    | some a =>
      rw [ea] at ei
      cases ei
      refine Tgt.to_mono (fun ρ2 z => ?_) (hd a (List.mem_of_getElem? ea))
      have et : l.take (i + 1) = l.take i ++ [a] := by rw [List.take_add_one, ea]; rfl
      refine z.1 _ ?_
      cases hp : p a with
      | true =>
        rw [if_pos rfl]
        refine z.2 hp _ ⟨rfl, ?_⟩
        rw [et, List.filter_append, List.map_append]
        simp [hp]
      | false =>
        rw [if_neg (by decide)]
        refine ⟨rfl, ?_⟩
        rw [et, List.filter_append, List.map_append]
        simp [hp]
  · obtain ⟨rfl, rfl⟩ := h
    rw [List.length_map, List.take_length]
    exact hq
theorem lc_mapA {α : Type} {ti : DTI} {tg : Tgt} {vs : List Nat} {te : DTE} {fin : List D → OS → DQ → Prop} {ρ : Env'} {O : OS} {Q : DQ} (l : List α) (e : α → D) (f : α → D)
    (hti : ∀ R : DRI, (∀ keep : OS → Prop, keep O → R (l.map e) keep O) → ti ρ O R)
    (hd : ∀ a ∈ l, tg.to (e a) (blank ρ vs) fun ρ2 => ∀ k : DQ, k (f a) O → te ρ2 O k)
    (hq : fin (l.map f) O Q) : dLcW ti tg vs tYesD te fin ρ O Q := by
  refine lc_pureA l e (fun _ => true) f hti (fun d m => Tgt.to_mono (fun ρ2 z => ⟨fun k h => h, fun _ => z⟩) (hd d m)) ?_
  have : l.filter (fun _ => true) = l := by simp
  rw [this]; exact hq
theorem blsD_mapA {α : Type} (g : α → Bool) : ∀ l : List α, blsD (l.map fun c => .bl (g c)) = some (l.map g)
  | [] => rfl
  | c :: l => by simp only [List.map_cons, blsD, blsD_mapA g l]; rfl
theorem strsD_mapA {α : Type} (g : α → List Nat) : ∀ l : List α, strsD (l.map fun c => .str (g c)) = some (l.map g)
  | [] => rfl
  | c :: l => by simp only [List.map_cons, strsD, strsD_mapA g l]; rfl
/-- a loop that changes no object, by an invariant of the slots -/
theorem for_pure {ti : DTI} {g : DTG} {tb : DTS} {D' : DEnds} {ρ : Env'} {O : OS} (its : List D) (W : Nat → Env' → Prop)
    (hti : ∀ R : DRI, (∀ keep : OS → Prop, keep O → R its keep O) → ti ρ O R) (h0 : W 0 ρ)
    (hs : ∀ i d ρ, its[i]? = some d → W i ρ → g d ρ O fun ρ2 O2 => tb { D' with nx := fun ρ' O' => O' = O ∧ W (i + 1) ρ', ct := fun ρ' O' => O' = O ∧ W (i + 1) ρ', bk := D'.nx } ρ2 O2)
    (hq : ∀ ρ, W its.length ρ → D'.nx ρ O) : sFor ti g tb D' ρ O := by
  refine hti _ fun keep hk => ⟨fun i ρ' O' => O' = O ∧ W i ρ', ⟨rfl, h0⟩, fun i ρ' O' _ h => by rw [h.1]; exact hk, fun i d ρ' O' e h => ?_, fun ρ' O' h => ?_⟩
  · obtain ⟨rfl, h⟩ := h
    exact hs i d ρ' e h
  · obtain ⟨rfl, h⟩ := h
    exact hq ρ' h
end DS

namespace DS
open PySem PySem.Spec PyProof.Rows L2
/-! ### readings, step by step -/
def Vw (O : OS) (d : D) (k : D → Prop) : Prop := k (vw O d)
def chk (z : D) (A B : Prop) : Prop := match z with
  | .bl true => A
  | .bl false => B
  | _ => False
def anyQ (x : D) (O1 : OS) (R : DRI) : Prop := match x with
  | .tup xs => R xs kAny O1
  | .lst xs => R xs kAny O1
  | .fl xs => R xs kAny O1
  | .str cs => R (cs.map fun c => .str [c]) kAny O1
  | .dic kds => R (kds.map fun kd => match kd.1 with | .i n => .int n | .s cs => .str cs) kAny O1
  | .atm (.ref p) => (match O1 p with | some (.lst xs) => R xs (fun O' => O' p = some (.lst xs)) O1 | _ => False)
  | _ => False
def oQ (d : D) (O1 : OS) (Qo : Option Int → OS → Prop) : Prop := match d with | .int i => Qo (some i) O1 | _ => False
def rg1Q (ds : List D) (O1 : OS) (R : DRI) : Prop := match ds with
  | [.int j] => (-1000000 ≤ j ∧ j ≤ 1000000) ∧ R (rgD 0 j.toNat) kAny O1
  | _ => False
def rg2Q (ds : List D) (O1 : OS) (R : DRI) : Prop := match ds with
  | [.int i, .int j] => (-1000000 ≤ i ∧ i ≤ 1000000 ∧ -1000000 ≤ j ∧ j ≤ 1000000) ∧ R (rgD i (j - i).toNat) kAny O1
  | _ => False
def starQ (d : D) (q : List D → Prop) : Prop := match itemsD d with | some ys => q ys | none => False
def forQ (g : DTG) (tb : DTS) (D : DEnds) (its : List DS.D) (keep : OS → Prop) (ρ : Env') (O1 : OS) : Prop := ∃ W : Nat → Env' → OS → Prop, W 0 ρ O1 ∧ (∀ i ρ O, i ≤ its.length → W i ρ O → keep O) ∧
  (∀ i d ρ O, its[i]? = some d → W i ρ O → g d ρ O fun ρ2 O2 => tb { D with nx := W (i + 1), ct := W (i + 1), bk := D.nx } ρ2 O2) ∧ ∀ ρ O, W its.length ρ O → D.nx ρ O
def jsQ (d : D) (acc : List Nat) (ts : List DTE) (ρ : Env') (O1 : OS) (Qc : List Nat → OS → Prop) : Prop := match d with
  | .str y => Sz (acc.length + y.length) ∧ dJs ts (acc ++ y) ρ O1 Qc
  | _ => False
def fmtQ (d : D) (O1 : OS) (Q : DQ) : Prop := match d with
  | .str y => Q (.str y) O1
  | .int i => (i.natAbs.log2 < 1920 ∧ Sz (cd (Str.ofString (toString i))).length) ∧ Q (.str (cd (Str.ofString (toString i)))) O1
  | _ => False
def setdQ (x y z : D) (O : OS) (Q : DQ) : Prop := match ownK O x, keyD y with
  | some (p, kds), some k => (kds.length < sizeLine ∧ (kds.map (·.1)).Nodup) ∧ (match kget kds k with | some d => Q d O | none => Q z (oput O p (.dic (kput kds k z))))
  | _, _ => False
def Vws (O : OS) (ds : List D) (k : List D → Prop) : Prop := k (ds.map (vw O))
section
variable {ρ : Env'} {O O1 : OS} {Q : DQ} {Qb : Bool → OS → Prop} {Ql : List D → OS → Prop} {Qo : Option Int → OS → Prop} {d x y z : D} {i j n : Int} {s t cs zs : List Nat} {xs ys ds : List D} {p : Addr} {k : D → Prop} {kl : List D → Prop} {ta tb tc te to td : DTE} {ua ub : DTT} {tl : DTA} {r r' : DR2} {r1 : DR1} {rb : DRL} {rm : DRM} {b : Bool} {T : String} {D' : DEnds} {u v : DTS} {X : DX} {W : DWX} {sp : DSp} {R : DRI} {g : DTG} {ol oh : DTO} {Qn : Env' → OS → Prop} {m : Nat} {kds : List (KD × D)} {kd : KD}
theorem w_own (h : O p = some d) (q : k d) : Vw O (.atm (.ref p)) k := by show k ((O p).getD _); rw [h]; exact q
theorem w_vint (q : k (.int i)) : Vw O (.int i) k := q
theorem w_vbl (q : k (.bl b)) : Vw O (.bl b) k := q
theorem w_vnon (q : k .non) : Vw O .non k := q
theorem w_vstr (q : k (.str cs)) : Vw O (.str cs) k := q
theorem w_vtup (q : k (.tup xs)) : Vw O (.tup xs) k := q
theorem w_vlst (q : k (.lst xs)) : Vw O (.lst xs) k := q
theorem w_vfl (q : k (.fl xs)) : Vw O (.fl xs) k := q
theorem w_vdic (q : k (.dic kds)) : Vw O (.dic kds) k := q
theorem w_vty {n : String} (q : k (.atm (.ty n))) : Vw O (.atm (.ty n)) k := q
theorem w_vtm {t : Trm} (q : k (tD t)) : Vw O (tD t) k := by cases t; exact q
theorem w_vany (h : vw O d = d) (q : k d) : Vw O d k := by show k (vw O d); rw [h]; exact q
theorem w_vsn (q : kl []) : Vws O [] kl := q
theorem w_vsc (q : Vw O d fun e => Vws O ds fun es => kl (e :: es)) : Vws O (d :: ds) kl := q
theorem w_var {i : Nat} (h : nth ρ i = some d) (q : Q d O) : dVar i ρ O Q := by unfold dVar; rw [h]; exact q
theorem w_c (q : Q d O) : dC d ρ O Q := q
theorem w_op (q : ta ρ O fun x O1 => tb ρ O1 fun y O2 => Vw O2 x fun x' => Vw O2 y fun y' => r x' y' O2 Q) : dOp r ta tb ρ O Q := q
theorem w_un (q : ta ρ O fun x O1 => Vw O1 x fun x' => r1 x' O1 Q) : dUn r1 ta ρ O Q := q
theorem w_b (q : tl ρ O fun ds O1 => Vws O1 ds fun es => rb es O1 Q) : dB rb tl ρ O Q := q
theorem w_m (q : to ρ O fun x O1 => Vw O1 x fun x' => tyName x' = some T ∧ tl ρ O1 fun ds O2 => rm x ds O2 Q) : dM T rm to tl ρ O Q := q
theorem w_nil (q : Ql [] O) : aNil ρ O Ql := q
theorem w_cons (q : ta ρ O fun x O1 => tl ρ O1 fun xs O2 => Ql (x :: xs) O2) : aCons ta tl ρ O Ql := q
theorem w_starT (q : kl xs) : starQ (.tup xs) kl := q
theorem w_starL (q : kl xs) : starQ (.lst xs) kl := q
theorem w_val (q : te ρ O (asB Qb)) : dVal te ρ O Qb := q
theorem w_asB (q : Qb b O) : asB Qb (.bl b) O := q
theorem w_and (q : ua ρ O fun b O1 => if b = true then ub ρ O1 Qb else Qb false O1) : dAnd ua ub ρ O Qb := q
theorem w_or (q : ua ρ O fun b O1 => if b = true then Qb true O1 else ub ρ O1 Qb) : dOr ua ub ρ O Qb := q
theorem w_orB {b1 b2 : Bool} (h1 : ∀ k : Bool → OS → Prop, k b1 O → ua ρ O k) (h2 : ∀ k : Bool → OS → Prop, k b2 O → ub ρ O k) (q : Qb (b1 || b2) O) : dOr ua ub ρ O Qb := by
  refine h1 _ ?_
  cases b1 with
  | true => exact q
  | false => exact h2 _ q
theorem w_andB {b1 b2 : Bool} (h1 : ∀ k : Bool → OS → Prop, k b1 O → ua ρ O k) (h2 : b1 = true → ∀ k : Bool → OS → Prop, k b2 O → ub ρ O k) (q : Qb (b1 && b2) O) : dAnd ua ub ρ O Qb := by
  refine h1 _ ?_
  cases b1 with
  | true => exact h2 rfl _ q
  | false => exact q
theorem w_not (q : ua ρ O fun b O1 => Qb (!b) O1) : dNot ua ρ O Qb := q
theorem w_andV (q : ta ρ O (asB fun b O1 => if b = true then tb ρ O1 Q else Q (.bl false) O1)) : dAndV ta tb ρ O Q := q
theorem w_orV (q : ta ρ O (asB fun b O1 => if b = true then Q (.bl true) O1 else tb ρ O1 Q)) : dOrV ta tb ρ O Q := q
theorem w_notE (q : ta ρ O (asB fun b O1 => Q (.bl (!b)) O1)) : dNotE ta ρ O Q := q
theorem w_notV (q : ua ρ O fun b O1 => Q (.bl (!b)) O1) : dNotV ua ρ O Q := q
theorem w_ifE (q : ua ρ O fun b O1 => if b = true then ta ρ O1 Q else tb ρ O1 Q) : dIfE ua ta tb ρ O Q := q
theorem w_ift {A B : Prop} (q : A) : if true = true then A else B := by rw [if_pos rfl]; exact q
theorem w_iff {A B : Prop} (q : B) : if false = true then A else B := by rw [if_neg (by decide)]; exact q
theorem w_ifd {c : Prop} [Decidable c] {A B : Prop} (h1 : c → A) (h2 : ¬ c → B) : if decide c = true then A else B := by
  by_cases e : c
  · rw [if_pos (decide_eq_true e)]; exact h1 e
  · rw [if_neg (by simpa using e)]; exact h2 e
theorem w_ifb {A B : Prop} (h1 : b = true → A) (h2 : b = false → B) : if b = true then A else B := by
  cases b with
  | true => rw [if_pos rfl]; exact h1 rfl
  | false => rw [if_neg (by decide)]; exact h2 rfl
theorem w_ifnt {A B : Prop} (q : B) : if (!true) = true then A else B := q
theorem w_ifnf {A B : Prop} (q : A) : if (!false) = true then A else B := q
theorem w_ifnd {c : Prop} [Decidable c] {A B : Prop} (h1 : c → B) (h2 : ¬ c → A) : if (!decide c) = true then A else B := by
  by_cases e : c
  · rw [decide_eq_true e]; exact h1 e
  · rw [decide_eq_false e]; exact h2 e
theorem w_ifnb {A B : Prop} (h1 : b = true → B) (h2 : b = false → A) : if (!b) = true then A else B := by
  cases b with
  | true => exact h1 rfl
  | false => exact h2 rfl
theorem w_tup (q : tl ρ O fun xs O1 => Sz xs.length ∧ Q (.tup xs) O1) : dTup tl ρ O Q := q
theorem w_lst (q : tl ρ O fun xs O1 => Sz xs.length ∧ Q (.lst xs) O1) : dLst tl ρ O Q := q
theorem w_lstM (q : tl ρ O fun xs O1 => Sz xs.length ∧ ∀ p, O1 p = none → Q (.atm (.ref p)) (oput O1 p (.lst xs))) : dLstM tl ρ O Q := q
theorem w_sl (q : te ρ O fun x O1 => ol ρ O1 fun lo O2 => oh ρ O2 fun hi O3 => Vw O3 x fun x' => rSl x' lo hi O3 Q) : dSl te ol oh ρ O Q := q
theorem w_on (q : Qo none O) : oNone ρ O Qo := q
theorem w_os (q : te ρ O fun d O1 => oQ d O1 Qo) : oSome te ρ O Qo := q
theorem w_for {ti : DTI} {tb : DTS} (q : ti ρ O fun its keep O1 => forQ g tb D' its keep ρ O1) : sFor ti g tb D' ρ O := q
theorem w_joined {ts : List DTE} (q : dJs ts [] ρ O fun out O1 => Q (.str out) O1) : dJoined ts ρ O Q := q
theorem w_jsn {acc : List Nat} {Qc : List Nat → OS → Prop} (q : Qc acc O) : dJs [] acc ρ O Qc := q
theorem w_jsc {acc : List Nat} {ts : List DTE} {Qc : List Nat → OS → Prop} (q : ta ρ O fun d O1 => jsQ d acc ts ρ O1 Qc) : dJs (ta :: ts) acc ρ O Qc := q
theorem w_jsS {acc : List Nat} {ts : List DTE} {Qc : List Nat → OS → Prop} (h : Sz (acc.length + cs.length)) (q : dJs ts (acc ++ cs) ρ O Qc) : jsQ (.str cs) acc ts ρ O Qc := ⟨h, q⟩
theorem w_fmt (q : te ρ O fun d O1 => fmtQ d O1 Q) : dFmt te ρ O Q := q
theorem w_fmtS (q : Q (.str cs) O) : fmtQ (.str cs) O Q := q
theorem w_setd (q : td ρ O fun x O1 => Vw O1 x fun x' => isDic x' = true ∧ ta ρ O1 fun y O2 => tb ρ O2 fun z O3 => Vw O3 y fun y' => setdQ x y' z O3 Q) : dSetd td ta tb ρ O Q := q
theorem w_setdQ (h : O p = some (.dic kds)) (hk : keyD y = some kd) (hl : kds.length < sizeLine) (hn : (kds.map (·.1)).Nodup) (q1 : ∀ d, kget kds kd = some d → Q d O) (q2 : kget kds kd = none → Q z (oput O p (.dic (kput kds kd z)))) : setdQ (.atm (.ref p)) y z O Q := by
  unfold setdQ ownK
  simp only [h, hk]
  refine ⟨⟨hl, hn⟩, ?_⟩
  split
  · rename_i d e; exact q1 d e
  · rename_i e; exact q2 e
theorem w_lenSet (q : te ρ O fun d O1 => Vw O1 d fun d' => lenSetQ d' O1 Q) : dLenSet te ρ O Q := q
theorem w_lenSetS {l : List (List Nat)} (h : strsD ds = some l) (z : l.length < 4000) (q : ∀ E : List (List Nat), E.Nodup → (∀ x, x ∈ E ↔ x ∈ l) → Q (.int E.length) O) : lenSetQ (.lst ds) O Q := .inl ⟨l, h, z, q⟩
theorem few_len {K : Type} [DecidableEq K] {l : List (List K)} (z : l.length < 63) : FewK l := fun M nd sub => by
  have : ∀ (M l : List (List K)), M.Nodup → (∀ k ∈ M, k ∈ l) → M.length ≤ l.length := by
    intro M
    induction M with
    | nil => intro l _ _; exact Nat.zero_le _
    | cons y M ih =>
      intro l n s
      obtain ⟨a, b⟩ := List.nodup_cons.mp n
      obtain ⟨u, v, rfl⟩ := List.append_of_mem (s y List.mem_cons_self)
      have := ih (u ++ v) b fun z hz => by
        have h2 := s z (List.mem_cons_of_mem _ hz)
        simp only [List.mem_append, List.mem_cons] at h2 ⊢
        rcases h2 with h | h | h
        · exact .inl h
        · subst h; exact absurd hz a
        · exact .inr h
      simp only [List.length_append, List.length_cons] at this ⊢
      omega
  exact Nat.lt_of_le_of_lt (this M l nd sub) z
theorem w_lenSetR {l : List (List KD)} (h : rowsD ds = some l) (z : l.length < 63) (q : ∀ E : List (List KD), E.Nodup → (∀ x, x ∈ E ↔ x ∈ l) → Q (.int E.length) O) : lenSetQ (.lst ds) O Q := .inr ⟨l, h, few_len z, q⟩
theorem w_lenSetF {l : List (List KD)} (h : rowsD ds = some l) (z : FewK l) (q : ∀ E : List (List KD), E.Nodup → (∀ x, x ∈ E ↔ x ∈ l) → Q (.int E.length) O) : lenSetQ (.lst ds) O Q := .inr ⟨l, h, z, q⟩
theorem w_try {ex : DX → Option Bool} {Wo : DWX} {tb : DWX → DTS} {ts : DTS} (q : tb (fun x ρ' O' => match ex x with
  | some true => ts D' ρ' O'
  | some false => Wo x ρ' O'
  | none => False) D' ρ O) : sTry ex Wo tb ts D' ρ O := q
theorem w_newK (q : ∀ p, O p = none → Q (.atm (.ref p)) (oput O p (.dic []))) : dNewK ρ O Q := q
theorem w_oi (q : Qo (some i) O) : oQ (.int i) O Qo := q
theorem w_it (q : te ρ O fun x O1 => anyQ x O1 R) : iAny te ρ O R := q
theorem w_itT (q : R xs kAny O) : anyQ (.tup xs) O R := q
theorem w_itL (q : R xs kAny O) : anyQ (.lst xs) O R := q
theorem w_itF (q : R xs kAny O) : anyQ (.fl xs) O R := q
theorem w_itS (q : R (cs.map fun c => .str [c]) kAny O) : anyQ (.str cs) O R := q
theorem w_itO (h : O p = some (.lst xs)) (q : R xs (fun O' => O' p = some (.lst xs)) O) : anyQ (.atm (.ref p)) O R := by unfold anyQ; simp only [h]; exact q
theorem w_rg1 (q : tl ρ O fun ds O1 => rg1Q ds O1 R) : iRg1 tl ρ O R := q
theorem w_rg1q (h1 : -1000000 ≤ j) (h2 : j ≤ 1000000) (q : R (rgD 0 j.toNat) kAny O) : rg1Q [.int j] O R := ⟨⟨h1, h2⟩, q⟩
theorem w_rg2 (q : tl ρ O fun ds O1 => rg2Q ds O1 R) : iRg2 tl ρ O R := q
theorem w_rg2q (h1 : -1000000 ≤ i) (h2 : i ≤ 1000000) (h3 : -1000000 ≤ j) (h4 : j ≤ 1000000) (q : R (rgD i (j - i).toNat) kAny O) : rg2Q [.int i, .int j] O R := ⟨⟨h1, h2, h3, h4⟩, q⟩
theorem w_star (q : ta ρ O fun x O1 => Vw O1 x fun x' => starQ x' fun xs => tl ρ O1 fun zs O2 => Ql (xs ++ zs) O2) : aStar ta tl ρ O Ql := q
theorem w_slS {a b : Option Int} (q : Q (.str (dcut cs a b)) O) : rSl (.str cs) a b O Q := q
theorem w_slT {a b : Option Int} (q : Q (.tup (dcut xs a b)) O) : rSl (.tup xs) a b O Q := q
theorem w_slL {a b : Option Int} (q : Q (.lst (dcut xs a b)) O) : rSl (.lst xs) a b O Q := q
theorem w_call (q : tl ρ O fun ds O1 => sp ds O1 Q fun x O2 => W x ρ O2) : dCall sp W tl ρ O Q := q
theorem w_frzO {c : D} (h : O p = some c) (q : Q c (odel O p)) : frzQ (.atm (.ref p)) O Q := by unfold frzQ; simp only [h]; exact q
theorem w_frz (q : te ρ O fun d O1 => frzQ d O1 Q) : dFrz te ρ O Q := q
-- operations
theorem w_addI (q : Q (.int (i + j)) O) : iAdd (.int i) (.int j) O Q := q
theorem w_addS (h : Sz (s.length + t.length)) (q : Q (.str (s ++ t)) O) : iAdd (.str s) (.str t) O Q := ⟨h, q⟩
theorem w_addT (h : Sz (xs.length + ys.length)) (q : Q (.tup (xs ++ ys)) O) : iAdd (.tup xs) (.tup ys) O Q := ⟨h, q⟩
theorem w_addL (h : Sz (xs.length + ys.length)) (q : Q (.lst (xs ++ ys)) O) : iAdd (.lst xs) (.lst ys) O Q := ⟨h, q⟩
theorem w_sub (q : Q (.int (i - j)) O) : iSub (.int i) (.int j) O Q := q
theorem w_mul (h : CMulW i j) (q : Q (.int (i * j)) O) : iMul (.int i) (.int j) O Q := ⟨h, q⟩
theorem w_mod (h : 0 < j) (q : Q (.int (i % j)) O) : iMod (.int i) (.int j) O Q := ⟨h, q⟩
theorem w_div (h : CDivW i j) (q : Q (.int (i / j)) O) : iDiv (.int i) (.int j) O Q := ⟨h, q⟩
theorem w_pow (h : 0 ≤ j ∧ (Builtin.Int.intBits i : Int) * j ≤ 2 ^ 27) (q : Q (.int (i ^ j.toNat)) O) : iPow (.int i) (.int j) O Q := ⟨h, q⟩
theorem w_mulS (h1 : s.length ≤ 16) (h2 : 0 ≤ n) (h3 : n ≤ 1048576) (q : Q (.str (List.replicate n.toNat s).flatten) O) : iMulS (.str s) (.int n) O Q := ⟨h1, h2, h3, q⟩
theorem w_inc (q : Q (.int (i + j)) O) : iInc (.int i) (.int j) O Q := q
theorem w_neg (q : Q (.int (-i)) O) : iNeg (.int i) O Q := q
theorem w_lt (q : Q (.bl (decide (i < j))) O) : cLt (.int i) (.int j) O Q := q
theorem w_le (q : Q (.bl (decide (i ≤ j))) O) : cLe (.int i) (.int j) O Q := q
theorem w_gt (q : Q (.bl (decide (j < i))) O) : cGt (.int i) (.int j) O Q := q
theorem w_ge (q : Q (.bl (decide (j ≤ i))) O) : cGe (.int i) (.int j) O Q := q
theorem w_eqI (q : Q (.bl (decide (i = j))) O) : cEq (.int i) (.int j) O Q := ⟨⟨rfl, rfl, .inl (by simp [dep])⟩, by rw [show deq (.int i) (.int j) = decide (i = j) from rfl]; exact q⟩
theorem w_neI (q : Q (.bl (!decide (i = j))) O) : cNe (.int i) (.int j) O Q := ⟨⟨rfl, rfl, .inl (by simp [dep])⟩, by rw [show deq (.int i) (.int j) = decide (i = j) from rfl]; exact q⟩
theorem w_eqS (q : Q (.bl (decide (s = t))) O) : cEq (.str s) (.str t) O Q := ⟨⟨rfl, rfl, .inl (by simp [dep])⟩, by rw [show deq (.str s) (.str t) = decide (s = t) by simp [deq]; first | rfl | (by_cases h : s = t <;> simp [h])]; exact q⟩
theorem w_neS (q : Q (.bl (!decide (s = t))) O) : cNe (.str s) (.str t) O Q := ⟨⟨rfl, rfl, .inl (by simp [dep])⟩, by rw [show deq (.str s) (.str t) = decide (s = t) by simp [deq]; first | rfl | (by_cases h : s = t <;> simp [h])]; exact q⟩
theorem w_eqD (h1 : plain x = true) (h2 : plain y = true) (h3 : dep x ≤ 150 ∨ dep y ≤ 150) (q : Q (.bl (deq x y)) O) : cEq x y O Q := ⟨⟨h1, h2, h3⟩, q⟩
theorem w_neD (h1 : plain x = true) (h2 : plain y = true) (h3 : dep x ≤ 150 ∨ dep y ≤ 150) (q : Q (.bl (!deq x y)) O) : cNe x y O Q := ⟨⟨h1, h2, h3⟩, q⟩
theorem w_isN (h : atmOk x = true) (q : Q (.bl (isNonB x)) O) : cIsN' x .non O Q := ⟨h, q⟩
theorem w_notN (h : atmOk x = true) (q : Q (.bl (!isNonB x)) O) : cNotN' x .non O Q := ⟨h, q⟩
theorem w_chain (q : ta ρ O fun x O1 => tb ρ O1 fun y O2 => Vw O2 x fun x' => Vw O2 y fun y' => r x' y' O2 fun z O3 => chk z (tc ρ O3 fun w O4 => Vw O4 y fun y'' => Vw O4 w fun w' => r' y'' w' O4 Q) (Q (.bl false) O3)) : dChain r r' ta tb tc ρ O Q := q
theorem w_ch {c : Prop} [Decidable c] {A B : Prop} (h1 : c → A) (h2 : ¬ c → B) : chk (.bl (decide c)) A B := by
  by_cases e : c
  · rw [decide_eq_true e]; exact h1 e
  · rw [decide_eq_false e]; exact h2 e
theorem w_atS {c : Nat} (h : atI cs i = some c) (q : Q (.str [c]) O) : gIx (.str cs) (.int i) O Q := by unfold gIx lookD dIx; simp only [h]; exact q
theorem w_atT (h : atI xs i = some d) (q : Q d O) : gIx (.tup xs) (.int i) O Q := by unfold gIx lookD dIx; simp only [h]; exact q
theorem w_atL (h : atI xs i = some d) (q : Q d O) : gIx (.lst xs) (.int i) O Q := by unfold gIx lookD dIx; simp only [h]; exact q
theorem w_atF (h : atI xs i = some d) (q : Q d O) : gIx (.fl xs) (.int i) O Q := by unfold gIx lookD dIx; simp only [h]; exact q
theorem w_atD (hk : keyD x = some kd) (h : kget kds kd = some d) (q : Q d O) : gIx (.dic kds) x O Q := by unfold gIx lookD; simp only [hk, h]; exact q
-- built-ins
theorem w_lenS (q : Q (.int cs.length) O) : bLen [.str cs] O Q := q
theorem w_lenT (q : Q (.int xs.length) O) : bLen [.tup xs] O Q := q
theorem w_lenL (q : Q (.int xs.length) O) : bLen [.lst xs] O Q := q
theorem w_lenF (q : Q (.int xs.length) O) : bLen [.fl xs] O Q := q
theorem w_lenD (q : Q (.int kds.length) O) : bLen [.dic kds] O Q := q
theorem w_isi {mm nn : String} (h : tyName x = some mm) (hn : nn ∈ tyNames) (nd : ∀ kk, x ≠ .dit kk) (q : Q (.bl (isiB mm nn)) O) : bIsi' [x, .atm (.ty nn)] O Q := by
  refine ⟨nd, ?_⟩
  show bIsi [x, .atm (.ty nn)] O Q
  unfold bIsi
  simp only [h]
  exact ⟨hn, q⟩
theorem w_isiY {mm nn : String} (h : tyName x = some mm) (hn : nn ∈ tyNames) (nd : ∀ kk, x ≠ .dit kk) (e : isiB mm nn = true) (q : Q (.bl true) O) : bIsi' [x, .atm (.ty nn)] O Q := w_isi h hn nd (by rw [e]; exact q)
theorem w_isiN {mm nn : String} (h : tyName x = some mm) (hn : nn ∈ tyNames) (nd : ∀ kk, x ≠ .dit kk) (e : isiB mm nn = false) (q : Q (.bl false) O) : bIsi' [x, .atm (.ty nn)] O Q := w_isi h hn nd (by rw [e]; exact q)
theorem w_isiT {nn : String} {tm : Trm} (hn : nn ∈ tyNames) (e : isiB "tuple" nn = b) (q : Q (.bl b) O) : bIsi' [tD tm, .atm (.ty nn)] O Q := by
  cases tm
  exact w_isi (mm := "tuple") rfl hn (fun _ h => by cases h) (by rw [e]; exact q)
theorem w_inS {c : Nat} {gb : Bool → Bool} (q : Q (.bl (gb (decide (c ∈ zs)))) O) : (fun (x y : D) (O : OS) (Q : DQ) => (∀ (xs : List D) (kds : List (List KD × D)), x = D.tup xs → y = D.dit kds → False) ∧ inB gb x y O Q) (.str [c]) (.str zs) O Q := ⟨fun _ _ h => (by cases h), q⟩
theorem w_frzD {d : D} (h : ∀ p, d ≠ .atm (.ref p)) (q : Q d O) : frzQ d O Q := by
  unfold frzQ
  split
  · exact absurd rfl (h _)
  · exact q
theorem w_asD (q : Q (.lst ds) O) : asData ds O Q := q
theorem w_asO (q : ∀ p, O p = none → Q (.atm (.ref p)) (oput O p (.lst ds))) : asOwn ds O Q := q
theorem w_int (q : Q (.int i) O) : bInt [.int i] O Q := q
theorem w_intB (q : Q (.int (if b then 1 else 0)) O) : bInt [.bl b] O Q := q
theorem w_abs (q : Q (.int (if i < 0 then -i else i)) O) : bAbs [.int i] O Q := q
theorem w_max (q : Q (.int (if j > i then j else i)) O) : bMax [.int i, .int j] O Q := q
theorem w_min (q : Q (.int (if j < i then j else i)) O) : bMin [.int i, .int j] O Q := q
theorem w_all {bs : List Bool} (h : blsD ds = some bs) (q : Q (.bl (bs.all id)) O) : bAll [.lst ds] O Q := by unfold bAll; simp only [h]; exact q
theorem w_any {bs : List Bool} (h : blsD ds = some bs) (q : Q (.bl (bs.any id)) O) : bAny [.lst ds] O Q := by unfold bAny; simp only [h]; exact q
theorem w_tupL (q : Q (.tup ds) O) : bTup [.lst ds] O Q := q
theorem w_tupT (q : Q (.tup ds) O) : bTup [.tup ds] O Q := q
theorem w_listL (q : Q (.lst ds) O) : bList [.lst ds] O Q := q
theorem w_listT (q : Q (.lst ds) O) : bList [.tup ds] O Q := q
theorem w_listML (q : ∀ p, O p = none → Q (.atm (.ref p)) (oput O p (.lst ds))) : bListM [.lst ds] O Q := q
theorem w_listMT (q : ∀ p, O p = none → Q (.atm (.ref p)) (oput O p (.lst ds))) : bListM [.tup ds] O Q := q
-- methods
theorem w_app (h : O p = some (.lst xs)) (z : xs.length < sizeLine) (q : Q .non (oput O p (.lst (xs ++ [d])))) : mAppend (.atm (.ref p)) [d] O Q := by unfold mAppend ownL; simp only [h]; exact ⟨z, q⟩
theorem w_extL (h : O p = some (.lst xs)) (z : Sz (xs.length + ys.length)) (q : Q .non (oput O p (.lst (xs ++ ys)))) : mExtend (.atm (.ref p)) [.lst ys] O Q := by unfold mExtend ownL; simp only [h]; exact ⟨z, q⟩
theorem w_popAt {kk : Nat} (h : O p = some (.lst xs)) (e : ixN xs.length i = some kk) (e2 : xs[kk]? = some d) (q : Q d (oput O p (.lst (xs.eraseIdx kk)))) : mPopAt (.atm (.ref p)) [.int i] O Q := by unfold mPopAt ownL; simp only [h, e, e2]; exact q
theorem w_join {l : List (List Nat)} (h : strsD ds = some l) (z : (l.map List.length).sum + l.length * s.length ≤ 16777216) (q : Q (.str (joinD s l)) O) : mJoin (.str s) [.lst ds] O Q := by unfold mJoin; simp only [vw, itemsD, h]; exact ⟨z, q⟩
-- statements
theorem w_seq (q : u { D' with nx := v D' } ρ O) : sSeq u v D' ρ O := q
theorem w_next (q : D'.nx ρ O) : sNext D' ρ O := q
theorem w_drop (q : te ρ O fun _ O1 => D'.nx ρ O1) : sDrop te D' ρ O := q
theorem w_ret (q : te ρ O D'.rt) : sRet te D' ρ O := q
theorem w_retN (q : D'.rt .non O) : sRetN D' ρ O := q
theorem w_if (q : ua ρ O fun b O1 => if b = true then u D' ρ O1 else v D' ρ O1) : sIf ua u v D' ρ O := q
theorem w_asg (q : te ρ O fun x O1 => g x ρ O1 D'.nx) : sAsg te g D' ρ O := q
theorem w_set {i : Nat} (q : te ρ O fun x O1 => D'.nx (put ρ i x) O1) : sSet i te D' ρ O := q
theorem w_par {i j : Nat} (q : tl ρ O (two i j D' ρ)) : sPar i j tl D' ρ O := q
theorem w_two {i j : Nat} (q : D'.nx (DS.put (DS.put ρ i x) j y) O) : two i j D' ρ [x, y] O := q
theorem w_aug {i : Nat} (h : nth ρ i = some d) (q : te ρ O fun y O1 => Vw O1 d fun d' => Vw O1 y fun y' => r d' y' O1 fun z O2 => D'.nx (DS.put ρ i z) O2) : sAug i r te D' ρ O := by unfold sAug; rw [h]; exact q
theorem w_gnm {i : Nat} (q : Qn (DS.put ρ i d) O) : gNm i d ρ O Qn := q
theorem w_gtp {is : List Nat} (h : xs.length = is.length) (q : Qn (puts ρ is xs) O) : gTp is (.tup xs) ρ O Qn := ⟨h, q⟩
theorem w_raise (q : W X ρ O) : sRaise X W D' ρ O := q
theorem w_break (q : D'.bk ρ O) : sBrk D' ρ O := q
theorem w_cont (q : D'.ct ρ O) : sCnt D' ρ O := q
end
end DS

namespace DS
open PySem PySem.Spec PyProof.Rows L2
theorem dcut_from {α : Type} (xs : List α) {i : Int} (h : 0 ≤ i) : dcut xs (some i) none = xs.drop i.toNat := by
  obtain ⟨k, rfl⟩ := Int.eq_ofNat_of_zero_le h
  unfold dcut
  rw [HT.sIx_none]
  show (xs.drop (HT.sIx xs.length 0 (some (k : Int)))).take (xs.length - HT.sIx xs.length 0 (some (k : Int))) = _
  rw [HT.sIx_nat, Int.toNat_natCast]
  by_cases e : k ≤ xs.length
  · rw [Nat.min_eq_left e, List.take_of_length_le (by rw [List.length_drop]; exact Nat.le_refl _)]
  · rw [Nat.min_eq_right (by omega), List.drop_of_length_le (Nat.le_refl _), List.drop_of_length_le (by omega)]; simp
theorem dcut_to {α : Type} (xs : List α) {j : Int} (h : 0 ≤ j) : dcut xs none (some j) = xs.take j.toNat := by
  obtain ⟨k, rfl⟩ := Int.eq_ofNat_of_zero_le h
  unfold dcut
  rw [HT.sIx_none]
  show (xs.drop 0).take (HT.sIx xs.length xs.length (some (k : Int)) - 0) = _
  rw [HT.sIx_nat, Int.toNat_natCast, List.drop_zero, Nat.sub_zero]
  by_cases e : k ≤ xs.length
  · rw [Nat.min_eq_left e]
  · rw [Nat.min_eq_right (by omega), List.take_of_length_le (Nat.le_refl _), List.take_of_length_le (by omega)]
theorem dcut_mid {α : Type} (xs : List α) {i j : Int} (h : 0 ≤ i) (h2 : 0 ≤ j) : dcut xs (some i) (some j) = (xs.drop i.toNat).take (j.toNat - i.toNat) := by
  obtain ⟨k, rfl⟩ := Int.eq_ofNat_of_zero_le h
  obtain ⟨m, rfl⟩ := Int.eq_ofNat_of_zero_le h2
  unfold dcut
  show (xs.drop (HT.sIx xs.length 0 (some (k : Int)))).take (HT.sIx xs.length xs.length (some (m : Int)) - HT.sIx xs.length 0 (some (k : Int))) = _
  rw [HT.sIx_nat, HT.sIx_nat, Int.toNat_natCast, Int.toNat_natCast]
  by_cases e : k ≤ xs.length
  · rw [Nat.min_eq_left e]
    by_cases e2 : m ≤ xs.length
    · rw [Nat.min_eq_left e2]
    · rw [Nat.min_eq_right (by omega), List.take_of_length_le (by rw [List.length_drop]; exact Nat.le_refl _), List.take_of_length_le (by rw [List.length_drop]; omega)]
  · have e3 : min k xs.length = xs.length := by omega
    have e4 : xs.drop k = [] := List.drop_of_length_le (by omega)
    rw [e3, e4, List.drop_length]; simp
theorem dcut_one {α : Type} (xs : List α) (j : Nat) : dcut xs (some (j : Int)) (some ((j : Int) + 1)) = (xs.drop j).take 1 := by
  rw [dcut_mid xs (by omega) (by omega)]
  have e : ((j : Int) + 1).toNat - (j : Int).toNat = 1 := by omega
  rw [e, Int.toNat_natCast]
theorem dcut_tail {α : Type} (x : α) (xs : List α) : dcut (x :: xs) (some 1) none = xs := by rw [dcut_from _ (by decide)]; rfl
theorem atI_pos {α : Type} {xs : List α} {i : Int} {x : α} (h : 0 ≤ i) (e : xs[i.toNat]? = some x) : atI xs i = some x := by
  obtain ⟨k, rfl⟩ := Int.eq_ofNat_of_zero_le h
  exact atI_nat (by simpa using e)
theorem atI_head {α : Type} {x : α} {xs : List α} : atI (x :: xs) 0 = some x := atI_pos (by decide) rfl
theorem atI_one {α : Type} {x y : α} {xs : List α} : atI (x :: y :: xs) 1 = some y := atI_pos (by decide) rfl
section
variable {P : Program} {w : World} {K : PySem.W.Frag} {mg : Str → Option Value} {base : Heap} {x qual : Str} {params : Arguments} {body : List Stmt} {scope : Scope} {f : Addr} {fd : FuncData} {k : Nat} {sp : DSp}
/-- a promise for nothing -/
theorem mkDFn0 (F : FunD K x qual params body scope [] [] f fd) (gm : mg x = some (.ref f)) (h : ∀ ds O Q E, sp ds O Q E → False) : DFn P w K mg base x k sp := by
  refine ⟨f, gm, F.kp, ?_⟩
  intro A outer s H us vs Q E hr he hv hs
  obtain ⟨Z, ds, O, F', Qd, Ed, _, _, q, _⟩ := hs
  exact (h _ _ _ _ q).elim
end
/-! ### what a def leaves behind is forgotten -/
def Sub (O O' : OS) : Prop := ∀ a d, O a = some d → O' a = some d
theorem Sub.refl {O : OS} : Sub O O := fun _ _ h => h
theorem Sub.trans {O O1 O2 : OS} (a : Sub O O1) (b : Sub O1 O2) : Sub O O2 := fun x d h => b x d (a x d h)
theorem Sub.new {O : OS} {p : Addr} {d : D} (h : O p = none) : Sub O (oput O p d) := fun a e q => by
  have : a ≠ p := fun z => by rw [z, h] at q; cases q
  rw [oput_ne this]; exact q
def dropQ (Q : DQ) : DQ := fun d O' => ∃ O, Sub O O' ∧ Q d O
def dropE (E : DXQ) : DXQ := fun d O' => ∃ O, Sub O O' ∧ E d O
theorem w_q {Q : DQ} {d : D} {O : OS} (q : Q d O) : dropQ Q d O := ⟨O, Sub.refl, q⟩
theorem w_qs {Q : DQ} {d : D} {O O' : OS} (s : Sub O O') (q : Q d O) : dropQ Q d O' := ⟨O, s, q⟩
theorem w_e {Q : DXQ} {d : DX} {O : OS} (q : Q d O) : dropE Q d O := ⟨O, Sub.refl, q⟩
theorem w_es {Q : DXQ} {d : DX} {O O' : OS} (s : Sub O O') (q : Q d O) : dropE Q d O' := ⟨O, s, q⟩
theorem Rep.drop {K : PySem.W.Frag} {Z F H : Hp} {O O' : OS} (r : Rep K Z F H O') (s : Sub O O') : Rep K Z F H O := by
  refine ⟨r.sub, fun a o e => ?_, fun a d e => r.own a d (s a d e)⟩
  obtain ⟨h1, h2, h3⟩ := r.hid a o e
  refine ⟨h1, h2, ?_⟩
  cases q : O a with
  | none => rfl
  | some d => rw [s a d q] at h3; cases h3
def sp2 (sp : DSp) : DSp := fun ds O Q E => ∃ Q0 E0, sp ds O Q0 E0 ∧ Q = dropQ Q0 ∧ E = dropE E0
theorem liftF_drop {K : PySem.W.Frag} {sp : DSp} (vs : List V) (H : Hp) (Q : VK) (E : XK) (h : liftF K sp vs H Q E) : liftF K (sp2 sp) vs H Q E := by
  obtain ⟨Z, ds, O, F, Qd, Ed, r, is, h, c, cx⟩ := h
  refine ⟨Z, ds, O, F, _, _, r, is, ⟨Qd, Ed, h, rfl, rfl⟩, fun d O' F' H' v r' e i q => ?_, fun x O' F' H' c' d r' e i q => ?_⟩
  · obtain ⟨O2, s, q⟩ := q
    exact c d O2 F' H' v (r'.drop s) e i q
  · obtain ⟨O2, s, q⟩ := q
    exact cx x O2 F' H' c' d (r'.drop s) e i q
section
variable {P : Program} {w : World} {K : PySem.W.Frag} {mg : Str → Option Value} {base : Heap} {x qual : Str} {params : Arguments} {body : List Stmt} {scope : Scope} {dvs : List V} {kws : List (Str × V)} {f : Addr} {fd : FuncData}
theorem okD2 {N ps : List Str} {k : Nat} {sp : DSp} {t : DWX → DTS} (F : FunD K x qual params body scope dvs kws f fd) (S : FnScope N ps scope) (len : ∀ ds O Q E, sp ds O Q E → ds.length = ps.length)
    (hd : ∀ (cdv : Value) (A : Around) (outer : List Env) (s : Shared) (H : Hp) (E : XK) (F0 : Bs) (W : DWX), Takes (cxOf (CX P w) P w K mg base N qual scope f cdv A outer s H E) (liftW K F0 W) → Room k (A.deeper (envOfC qual scope s.heap.objs.size f cdv)) →
      DSs (cxOf (CX P w) P w K mg base N qual scope f cdv A outer s H E) F0 body (t W))
    (hv : ∀ ds O Q E, sp ds O Q E → t (fun x _ O => dropE E x O) ⟨fun _ O => dropQ Q .non O, dropQ Q, fun _ _ => False, fun _ _ => False⟩ (startD N ds) O) : FnOk P w K mg base (CX P w) (k + 1) f fd ps (liftF K sp) :=
  (okD (sp := sp2 sp) F S (fun ds O Q E ⟨_, _, h, _, _⟩ => len ds O _ _ h) hd (fun ds O Q E ⟨Q0, E0, h, e1, e2⟩ => by subst e1 e2; exact hv ds O Q0 E0 h)).imp liftF_drop
end
end DS

namespace DS
open PySem PySem.Spec PyProof.Rows L2

/-! ### x < y of data that are alike -/
def dlt (x y : D) : Bool := PySem.W.dataLt (pd x) (pd y)
def notNon : D → Bool
  | .non => false
  | _ => true
def ltOk (x y : D) : Prop := plain x = true ∧ plain y = true ∧ PySem.W.alike (pd x) (pd y) = true ∧ notNon x = true ∧ dep x ≤ 150
def cLtD : DR2 := fun x y O Q => ltOk x y ∧ Q (.bl (dlt x y)) O
def rLtV (K : PySem.W.Frag) : R2 := fun x y H Q => ∃ F dx dy, Ext F H ∧ IsV K F H dx x ∧ IsV K F H dy y ∧ ltOk dx dy ∧ Q (.bl (dlt dx dy)) H
theorem pd_none {x : D} (h : plain x = true) (n : notNon x = true) : pd x ≠ .none := by cases x <;> simp_all [plain, pd, notNon]
theorem op_ltV {X : Cx} (hu : X.A.units + 200 < cLine) : OpR X (compareOp .Lt) (rLtV X.K) := by
  intro pins s σ H x y v u Q I rx ry h
  obtain ⟨F, dx, dy, e, ix, iy, ⟨px, py, al, nn, hd⟩, q⟩ := h
  obtain ⟨as, r1⟩ := reads_pdV I e px ix rx
  obtain ⟨bs, r2⟩ := reads_pdV I e py iy ry
  have hm : X.A.units + min (pd dx).depth (pd dy).depth < cLine := by
    rw [dep_pd px]
    have := Nat.min_le_left (dep dx) (pd dy).depth
    omega
  have z : wpAny (model X.prog X.w) X.A (compareOp .Lt v u) (EP X pins σ Q) X.xe s := PySem.W.rcLt_alike (pd dx) (pd dy) X.A s v u as bs r1 r2 al (pd_none px nn) hm X.prog X.w X.xe (EP X pins σ Q) ⟨.bl (dlt dx dy), H, I, rfl, q⟩
  exact z
theorem l_ltV {K : PySem.W.Frag} : Lop K cLtD (rLtV K) := fun x y O Qd Z F H vx vy Q r ix iy h c => ⟨F, x, y, r.sub, ix, iy, h.1, c _ _ _ _ _ r Ext.refl Is.mkBl h.2⟩

/-! ### is, of truth values -/
def cIsB : DR2 := fun x y O Q => match x, y with
  | .bl a, .bl b => Q (.bl (decide (a = b))) O
  | _, _ => False
def cNotB : DR2 := fun x y O Q => match x, y with
  | .bl a, .bl b => Q (.bl (!decide (a = b))) O
  | _, _ => False
theorem l_isB {K : PySem.W.Frag} : Lop K cIsB rIsB := fun x y O Qd Z F H vx vy Q r ix iy h c => by
  unfold cIsB at h
  split at h
  · exact ⟨_, _, ix, iy, c _ _ _ _ _ r Ext.refl Is.mkBl h⟩
  · exact h.elim
theorem l_notB {K : PySem.W.Frag} : Lop K cNotB rNotB := fun x y O Qd Z F H vx vy Q r ix iy h c => by
  unfold cNotB at h
  split at h
  · exact ⟨_, _, ix, iy, c _ _ _ _ _ r Ext.refl Is.mkBl h⟩
  · exact h.elim

/-! ### a list, a tuple times an int -/
theorem Iss.rep {K : PySem.W.Frag} {F : Hp} {xs : List D} {vs : List V} (h : Iss K F xs vs) : ∀ n : Nat, Iss K F (List.replicate n xs).flatten (List.replicate n vs).flatten
  | 0 => Iss.nil
  | n + 1 => by
    rw [List.replicate_succ, List.replicate_succ, List.flatten_cons, List.flatten_cons]
    exact h.app (Iss.rep h n)
theorem len_rep {α : Type} (xs : List α) (n : Nat) : (List.replicate n xs).flatten.length = n * xs.length := by
  induction n with
  | zero => simp
  | succ n ih => rw [List.replicate_succ, List.flatten_cons, List.length_append, ih, Nat.succ_mul]; omega
def iMulL : DR2 := fun x y O Q => match x, y with
  | .lst xs, .int n => (-(2 ^ 63) ≤ n ∧ n < 2 ^ 63 ∧ xs.length * n.toNat ≤ sizeLine) ∧ Q (.lst (List.replicate n.toNat xs).flatten) O
  | .tup xs, .int n => (xs ≠ [] ∧ 2 ≤ n ∧ n ≤ 1000 ∧ xs.length ≤ 1000) ∧ Q (.tup (List.replicate n.toNat xs).flatten) O
  | _, _ => False
theorem l_mulL {K : PySem.W.Frag} : Lop K iMulL (fun x y H Q => rRep x y H Q ∨ rRepT K x y H Q) := fun x y O Qd Z F H vx vy Q r ix iy h c => by
  unfold iMulL at h
  split at h
  · rename_i xs n
    obtain ⟨a, vs, rfl, h1, h2, h3⟩ := ix
    have e := iy.int
    subst e
    obtain ⟨⟨a1, a2, a3⟩, q⟩ := h
    rw [h2.len] at a3
    refine .inl ⟨a, n, vs, rfl, rfl, h1, a1, a2, a3, fun p hp => conv_lst c r hp (h2.rep _) (by rw [len_rep, Nat.mul_comm]; exact a3) q⟩
  · rename_i xs n
    obtain ⟨a, vs, rfl, h1, h2, h3⟩ := ix
    have e := iy.int
    subst e
    obtain ⟨⟨a1, a2, a3, a4⟩, q⟩ := h
    have hn : vs ≠ [] := fun e => a1 (by
      have := h2.len
      rw [e] at this
      exact List.eq_nil_of_length_eq_zero this)
    rw [h2.len] at a4
    refine .inr ⟨a, n, vs, rfl, rfl, .of (r.sub _ _ h1), hn, a2, a3, a4, fun p hp => conv_tup c r hp (h2.rep _) ?_ q⟩
    rw [len_rep]
    have : n.toNat * vs.length ≤ 1000 * 1000 := Nat.mul_le_mul (by omega) a4
    exact Nat.le_trans this (by rw [sizeLine_eq]; decide)
  · exact h.elim

/-! ### xs[::-1], t[::-1] -/
section
variable {prog : Program} {w : World} {A : Around} {E : Value → Shared → Prop} {s : Shared}
theorem places_rev (n : Nat) : Builtin.Slice.slicePlaces ((n : Int) - 1) (-1) (-1) = n := by
  unfold Builtin.Slice.slicePlaces
  have h1 : ¬ ((-1 : Int) > 0) := by decide
  rw [if_neg h1]
  by_cases h : (n : Int) - 1 > -1
  · rw [if_pos h, show (- -1 : Int) = 1 by decide, Int.ediv_one]; omega
  · rw [if_neg h]; omega
theorem slicePart_m1 {v : Value} {Q : Option Int → Shared → Prop} (p : IsPart v (some (-1))) (h : Q (some (-1)) s) : wpAny (model prog w) A (Builtin.Slice.slicePartIndex v) Q E s := HT.slicePart_ p h
theorem sliceApplied_rev {sl : Addr} {vs : Value} {n : Nat} {Q : Int × Int × Nat → Shared → Prop} (hs : s.heap.IsSliceOf sl .none .none vs) (ps : IsPart vs (some (-1)))
    (h : Q ((n : Int) - 1, -1, n) s) : wpAny (model prog w) A (Builtin.Slice.sliceApplied (.ref sl) (pure (n : Int))) Q E s := by
  obtain ⟨os, hos, hcs, hds⟩ := id hs
  unfold Builtin.Slice.sliceApplied Builtin.Slice.sliceFields
  refine wpAny_bind (wpAny_bind (wpAny_field hos hds (x := .none) rfl (wpAny_bind (wpAny_field hos hds (x := .none) rfl (wpAny_bind (wpAny_field hos hds (x := vs) rfl (wpAny_pure ?_)))))))
  refine wpAny_bind (slicePart_m1 ps ?_)
  show wpAny _ _ (if ((-1 : Int) == 0) = true then _ else _) _ _ s
  rw [if_neg (by decide)]
  refine wpAny_bind (slicePart_none (wpAny_bind (slicePart_none (wpAny_bind (wpAny_pure ?_)))))
  show wpAny _ _ (pure ((n : Int) - 1, (-1 : Int), Builtin.Slice.slicePlaces ((n : Int) - 1) (-1) (-1))) _ _ s
  rw [places_rev]
  exact wpAny_pure h
theorem pick_rev (xs : Array Value) : ((List.range xs.size).filterMap fun (m : Nat) => xs[(((xs.size : Int) - 1) + (m : Int) * (-1)).toNat]?).toArray = xs.toList.reverse.toArray := by
  have e : ((List.range xs.size).filterMap fun (m : Nat) => xs[(((xs.size : Int) - 1) + (m : Int) * (-1)).toNat]?) = ((List.range xs.size).map fun m => xs.size - 1 - m).filterMap (xs[·]?) := by
    rw [List.filterMap_map]
    have go : ∀ l : List Nat, (∀ m ∈ l, m < xs.size) → (l.filterMap fun (m : Nat) => xs[(((xs.size : Int) - 1) + (m : Int) * (-1)).toNat]?) = l.filterMap ((fun x => xs[x]?) ∘ fun m => xs.size - 1 - m) := by
      intro l
      induction l with
      | nil => intro _; rfl
      | cons m l ih =>
        intro hl
        have hm := hl m List.mem_cons_self
        have e : ((((xs.size : Int) - 1) + (m : Int) * (-1)).toNat) = xs.size - 1 - m := by omega
        simp only [List.filterMap_cons, Function.comp, e]
        rw [ih fun x hx => hl x (List.mem_cons_of_mem _ hx)]
    exact go _ fun m hm => List.mem_range.mp hm
  rw [e, PySem.W.krv_range, List.filterMap_reverse, PySem.W.krv_all]
theorem getItem_tuple_rev {t sl : Addr} {items : Array Value} {vs : Value} {Q : Value → Shared → Prop} (ht : IsTup s.heap t items) (hs : s.heap.IsSliceOf sl .none .none vs) (ps : IsPart vs (some (-1)))
    (h : Q (.ref s.heap.objs.size) { s with heap := s.heap.push { cls := .type "tuple", data := .seq items.toList.reverse.toArray } })
    (hsz : items.size ≤ sizeLine) : wpAny (model prog w) A (getItem (.ref t) (.ref sl)) Q E s := by
  have htake : sizeOk (.seq items.toList.reverse.toArray) := by
    show items.toList.reverse.toArray.size ≤ sizeLine
    rw [List.size_toArray, List.length_reverse, Array.length_toList]
    exact hsz
  obtain ⟨os, hos, hcs, hds⟩ := id hs
  have hTs : s.TypeIs (.ref sl) "slice" := ⟨os, hos, hcs⟩
  unfold getItem
  try with_reducible refine wpAny_holding ?_
  first | refine wpAny_bind (wpAny_pure ?_) | skip
  refine wpAny_bind (wpAny_sequenceKey ht.typeIs (by decide) ?_)
  refine wpAny_bind (wpAny_callSpecial?_slot (name := Str.ofString "__getitem__") ht.typeIs PyProof.Rows.slot_tuple_getitem
    (wpAny_call_entry PyProof.Rows.slot_tuple_getitem ht.typeIs PyProof.Rows.entry_tuple_getitem ?_ (PyProof.Rows.args_tuple_getitem _ _)))
  show wpAny _ _ (Builtin.Tuple.tupleItemsOf (.ref t) >>= _) _ _ s
  refine wpAny_bind (tupleItemsOf_ ht ?_)
  refine wpAny_bind (wpAny_typeOf hTs ?_)
  rw [if_pos (by decide)]
  refine wpAny_bind (sliceApplied_rev hs ps ?_)
  have hno : ¬ ((((items.size : Int) - 1) == 0 && (-1 : Int) == 1 && items.size == items.size) = true) := by simp
  show wpAny _ _ (if (((items.size : Int) - 1) == 0 && (-1 : Int) == 1 && items.size == items.size) = true then _ else _) _ _ s
  rw [if_neg hno, pick_rev]
  first
    | exact wpAny_bind (m := Builtin.Tuple.tupleExact _) (wpAny_newObj_type (wpAny_pure ⟨_, rfl, wpAny_pure h⟩) htake)
    | exact wpAny_bind (m := Builtin.Tuple.tupleExact _) (wpAny_newObj_type (wpAny_bind (wpAny_pure (wpAny_pure ⟨_, rfl, wpAny_pure h⟩))) htake)
end
def tRevA (K : PySem.W.Frag) (te : TE) : TE := fun σ H Q => te σ H fun x H1 => ∃ a xs, x = .ref a ∧ ((SqL K H1 a xs ∧ ∀ p, H1 p = none → Q (.ref p) (upd H1 p (.lst xs.reverse))) ∨ (SqT K H1 a xs ∧ ∀ p, H1 p = none → Q (.ref p) (upd H1 p (.tup xs.reverse))))
theorem pe_revA {X : Cx} {e : Expr} {te : TE} {k : Nat} {p1 p2 p3 pos : Pos} (he : PE X e te) : PE X (.Subscript e (.Slice none none (some (.UnaryOp .USub (.Constant (.int 1) k p1) p2)) p3) pos) (tRevA X.K te) := by
  refine ⟨fun pins s σ H Q I h => ?_⟩
  refine Subscript_ (thn (he.run pins s σ H _ I h) fun v s1 ⟨x, H1, I1, r1, q1⟩ => ?_)
  obtain ⟨a, xs, ex, q1⟩ := q1
  subst ex
  cases r1
  have hst : PO X (some (.UnaryOp .USub (.Constant (.int 1) k p1) p2)) (tPart (tUn (rU fun i => .int (-i)) (tC (.int 1)))) := po_some (pe_un un_neg pe_int)
  refine wpAny_Slice (thn (po_none.run pins s1 σ H1 (fun o H2 => o = none ∧ H2 = H1) I1 ⟨rfl, rfl⟩) fun vl s2 ⟨l, H2, I2, pl, el, e2⟩ => ?_)
  subst el e2
  refine thn (po_none.run pins s2 σ H2 (fun o H3 => o = none ∧ H3 = H2) I2 ⟨rfl, rfl⟩) fun vu s3 ⟨u, H3, I3, pu, eu, e3⟩ => ?_
  subst eu e3
  refine thn (hst.run pins s3 σ H3 (fun o H4 => o = some (-1) ∧ H4 = H3) I3 ⟨1, rfl, -1, rfl, rfl, rfl⟩) fun vs s4 ⟨o, H4, I4, ps, eo, e4⟩ => ?_
  subst eo e4
  have I5 : Inv X pins σ H4 { s4 with heap := s4.heap.push { cls := .type "slice", data := .fields #[vl, vu, vs] } } := I4.kept (t' := s4.toks) fun b ob q => Heap.get?_push_of_some _ q
  show wpAny (model X.prog X.w) X.A (subscriptTail e (.Slice none none (some (.UnaryOp .USub (.Constant (.int 1) k p1) p2)) p3) (.ref a) (.ref s4.heap.objs.size)) (EP X pins σ Q) X.xe { s4 with heap := s4.heap.push { cls := .type "slice", data := .fields #[vl, vu, vs] } }
  rcases q1 with ⟨hx, q⟩ | ⟨hx, q⟩
  · obtain ⟨its, r, ht, hz⟩ := I5.list hx
    have hlen := r.length
    refine tail_any (ops := [.ref a, .ref s4.heap.objs.size]) ht.isList.typeIs (PySem.slot_list_getitem.lookup) ?_ (by with_unfolding_all rfl)
    refine wpAny_getItem_list_slice ht.isList (Heap.IsSliceOf.new _ vl vu vs) pl pu ps (by decide) ?_ (by rw [List.size_toArray]; omega)
    rw [PySem.W.krv_pick]
    refine ⟨.ref _, _, I5.laid (t' := s4.toks) (o := .lst xs.reverse) (fun b ob q => Heap.get?_push_of_some _ q) (Nat.le_refl _) ?_, rfl, q _ (I5.hok.fresh (Nat.le_refl _))⟩
    exact ⟨by rw [List.length_reverse]; exact hz, _, 0, r.reverse, Heap.get?_push_size _ rfl⟩
  · obtain ⟨its, r, ht, hz⟩ := I5.tuple hx
    have hlen := r.length
    cases pl
    cases pu
    refine tail_any (ops := [.ref a, .ref s4.heap.objs.size]) ht.typeIs PyProof.Rows.slot_tuple_getitem.lookup ?_ (by with_unfolding_all rfl)
    refine getItem_tuple_rev ht (Heap.IsSliceOf.new _ .none .none vs) ps ?_ (by rw [List.size_toArray]; omega)
    refine ⟨.ref _, _, I5.laid (t' := s4.toks) (o := .tup xs.reverse) (fun b ob q => Heap.get?_push_of_some _ q) (Nat.le_refl _) ?_, rfl, q _ (I5.hok.fresh (Nat.le_refl _))⟩
    exact ⟨by rw [List.length_reverse]; exact hz, _, r.reverse, IsTup.new _ _⟩
def revQ (d : D) (O : OS) (Q : DQ) : Prop := match d with
  | .lst xs => Q (.lst xs.reverse) O
  | .tup xs => Q (.tup xs.reverse) O
  | _ => False
def dRev (te : DTE) : DTE := fun ρ O Q => te ρ O fun d O1 => revQ (vw O1 d) O1 Q
theorem de_rev {X : Cx} {F0 : Bs} {e : Expr} {te : DTE} {k : Nat} {p1 p2 p3 pos : Pos} (he : DE X F0 e te) : DE X F0 (.Subscript e (.Slice none none (some (.UnaryOp .USub (.Constant (.int 1) k p1) p2)) p3) pos) (dRev te) := PE.imp (pe_revA he) fun σ H Q h => by
  obtain ⟨Z, ρ, O, F, Qd, at_, h, cv⟩ := h
  refine ⟨_, ρ, O, F, _, at_, h, fun d O1 F1 H1 v r1 e1 i1 h1 => ?_⟩
  have iv := r1.view i1
  unfold revQ at h1
  split at h1
  · rename_i xs ev
    rw [ev] at iv
    obtain ⟨a, vs, rfl, h2, h3, h4⟩ := iv
    exact ⟨a, vs, rfl, .inl ⟨.of h2, fun p hp => conv_lst (cv.ext e1) r1 hp h3.rev (by rw [List.length_reverse]; exact h4) h1⟩⟩
  · rename_i xs ev
    rw [ev] at iv
    obtain ⟨a, vs, rfl, h2, h3, h4⟩ := iv
    exact ⟨a, vs, rfl, .inr ⟨.of (r1.sub _ _ h2), fun p hp => conv_tup (cv.ext e1) r1 hp h3.rev (by rw [List.length_reverse]; exact h4) h1⟩⟩
  · exact h1.elim

/-! ### a, b, .. = a list -/
def gTl (is : List Nat) : DTG := fun d ρ O Q => match d with
  | .lst ds => ds.length = is.length ∧ Q (puts ρ is ds) O
  | _ => False
theorem dg_lst {X : Cx} {F0 : Bs} {pos : Pos} {es : List Expr} {k : Nat} {is : List Nat} (hc : X.calm = true) (h : PGs X es (gN is))
    (hn : (assignEach es X.env).length = is.length := by rfl) (hst : (assignEach es X.env).findIdx? (·.1) = none := by rfl) : DG X F0 (.Tuple es k pos) (gTl is) := PG.imp (pg_lst hc h hn hst) fun v σ H Q hh => by
  obtain ⟨Z, d, ρ, O, F, Qd, at_, is', h, cv⟩ := hh
  unfold gTl at h
  split at h
  · simp only [Is] at is'
    obtain ⟨a, vs, rfl, h2, h3, h4⟩ := is'
    exact ⟨a, vs, rfl, .of (at_.rep.sub _ _ h2), by rw [← h3.len]; exact h.1, gN_of at_ h3 h.1 h.2 cv⟩
  · exact h.elim
end DS

namespace DS
open PySem PySem.Spec PyProof.Rows L2

/-! ### enumerate(xs), zip(xs, ys) -/
def enumD (xs : List D) : List D := (List.range xs.length).zipWith (fun i x => .tup [.int (i : Nat), x]) xs
def zipD (xs ys : List D) : List D := List.zipWith (fun x y => .tup [x, y]) xs ys
theorem enumD_len (xs : List D) : (enumD xs).length = xs.length := by unfold enumD; simp
theorem enumD_get {xs : List D} {i : Nat} {d : D} (h : (enumD xs)[i]? = some d) : ∃ x, xs[i]? = some x ∧ d = .tup [.int (i : Nat), x] := by
  unfold enumD at h
  rw [List.getElem?_zipWith] at h
  have hi : i < xs.length := by
    apply Decidable.byContradiction
    intro hn
    rw [List.getElem?_eq_none (l := xs) (by omega)] at h
    split at h <;> simp_all
  rw [List.getElem?_range hi, List.getElem?_eq_getElem hi] at h
  exact ⟨xs[i], List.getElem?_eq_getElem hi, (Option.some.inj h).symm⟩
theorem zipD_get {xs ys : List D} {i : Nat} {d : D} (h : (zipD xs ys)[i]? = some d) : ∃ x y, xs[i]? = some x ∧ ys[i]? = some y ∧ d = .tup [x, y] := by
  unfold zipD at h
  rw [List.getElem?_zipWith] at h
  cases e : xs[i]? with
  | none => rw [e] at h; cases h
  | some x =>
    cases e2 : ys[i]? with
    | none => rw [e, e2] at h; cases h
    | some y => rw [e, e2] at h; exact ⟨x, y, rfl, rfl, (Option.some.inj h).symm⟩
theorem zipD_len (xs ys : List D) : (zipD xs ys).length = min xs.length ys.length := by unfold zipD; simp
def Seen (K : PySem.W.Frag) (F : Hp) (S : PySem.W.Frag → Hp → Addr → List V → Prop) (a : Addr) (xs : List D) (keep : OS → Prop) : Prop := ∀ Z F1 H1 O1, Ext F F1 → Rep K Z F1 H1 O1 → keep O1 → ∃ vs, S K H1 a vs ∧ Iss K F1 xs vs
theorem pair_new {K : PySem.W.Frag} {Z F H : Hp} {O : OS} {T : Addr} {x y : D} {v w : V} (r : Rep K Z F H O) (hT : H T = none) (ix : Is K F x v) (iy : Is K F y w) :
    ∃ F2, Rep K Z F2 (upd H T (.tup [v, w])) O ∧ Ext F F2 ∧ Is K F2 (.tup [x, y]) (.ref T) := by
  obtain ⟨r2, e2⟩ := r.newF (o := .tup [v, w]) hT
  exact ⟨_, r2, e2, Is.mkTup upd_same (Iss.cons (ix.ext e2) (Iss.cons (iy.ext e2) Iss.nil)) (by show 2 ≤ sizeLine; decide)⟩
theorem itOk_enum {K : PySem.W.Frag} {F : Hp} {xs : List D} {a : Addr} {keep : OS → Prop} (hJ : Seen K F SqL a xs keep) (z : Sz xs.length) : ItOk K F (enumD xs) keep (Ite K a) := by
  refine ⟨fun Z j F1 H1 O1 e r k hj => ?_, fun Z j F1 H1 O1 x H2 d e r k hj y => ?_, fun Z F1 H1 O1 e r k => ?_, by rw [enumD_len]; exact z⟩
  · obtain ⟨vs, h1, h2⟩ := hJ _ _ _ _ e r k
    rw [enumD_len, h2.len] at hj
    exact ⟨vs, _, h1, List.getElem?_eq_getElem hj⟩
  · obtain ⟨vs, h1, h2⟩ := hJ _ _ _ _ e r k
    obtain ⟨c, hc, rfl⟩ := enumD_get hj
    obtain ⟨T, v, rfl, hT, rfl, hx⟩ := y
    obtain ⟨w, hw, iw⟩ := h2.get hc
    have q := hx vs h1
    rw [hw] at q
    cases q
    exact pair_new r hT Is.mkInt iw
  · obtain ⟨vs, h1, h2⟩ := hJ _ _ _ _ e r k
    exact ⟨vs, h1, by rw [enumD_len, h2.len]; exact Nat.le_refl _⟩
theorem itOk_zip {K : PySem.W.Frag} {F : Hp} {xs ys : List D} {a b : Addr} {keep : OS → Prop} {J : It}
    (hJ : (J = Itz K a b ∧ Seen K F SqL a xs keep ∧ Seen K F SqL b ys keep) ∨ (J = RZ.ItzT K a b ∧ Seen K F SqT a xs keep ∧ Seen K F SqT b ys keep)) (z : Sz xs.length) : ItOk K F (zipD xs ys) keep J := by
  have hz : Sz (zipD xs ys).length := by rw [zipD_len]; exact Nat.le_trans (Nat.min_le_left _ _) z
  rcases hJ with ⟨rfl, ha, hb⟩ | ⟨rfl, ha, hb⟩
  · refine ⟨fun Z j F1 H1 O1 e r k hj => ?_, fun Z j F1 H1 O1 x H2 d e r k hj y => ?_, fun Z F1 H1 O1 e r k => ?_, hz⟩
    · obtain ⟨vs, h1, h2⟩ := ha _ _ _ _ e r k
      obtain ⟨ws, h3, h4⟩ := hb _ _ _ _ e r k
      rw [zipD_len, h2.len, h4.len] at hj
      exact ⟨vs, ws, _, _, h1, h3, List.getElem?_eq_getElem (by omega), List.getElem?_eq_getElem (by omega)⟩
    · obtain ⟨vs, h1, h2⟩ := ha _ _ _ _ e r k
      obtain ⟨ws, h3, h4⟩ := hb _ _ _ _ e r k
      obtain ⟨c, c2, hc, hc2, rfl⟩ := zipD_get hj
      obtain ⟨T, v, v2, rfl, hT, rfl, hx, hy⟩ := y
      obtain ⟨w, hw, iw⟩ := h2.get hc
      obtain ⟨w2, hw2, iw2⟩ := h4.get hc2
      have q := hx vs h1
      rw [hw] at q
      cases q
      have q := hy ws h3
      rw [hw2] at q
      cases q
      exact pair_new r hT iw iw2
    · obtain ⟨vs, h1, h2⟩ := ha _ _ _ _ e r k
      obtain ⟨ws, h3, h4⟩ := hb _ _ _ _ e r k
      exact ⟨vs, ws, h1, h3, by rw [zipD_len, h2.len, h4.len]; omega⟩
  · refine ⟨fun Z j F1 H1 O1 e r k hj => ?_, fun Z j F1 H1 O1 x H2 d e r k hj y => ?_, fun Z F1 H1 O1 e r k => ?_, hz⟩
    · obtain ⟨vs, h1, h2⟩ := ha _ _ _ _ e r k
      obtain ⟨ws, h3, h4⟩ := hb _ _ _ _ e r k
      rw [zipD_len, h2.len, h4.len] at hj
      exact ⟨vs, ws, _, _, h1, h3, List.getElem?_eq_getElem (by omega), List.getElem?_eq_getElem (by omega)⟩
    · obtain ⟨vs, h1, h2⟩ := ha _ _ _ _ e r k
      obtain ⟨ws, h3, h4⟩ := hb _ _ _ _ e r k
      obtain ⟨c, c2, hc, hc2, rfl⟩ := zipD_get hj
      obtain ⟨T, v, v2, rfl, hT, rfl, hx, hy⟩ := y
      obtain ⟨w, hw, iw⟩ := h2.get hc
      obtain ⟨w2, hw2, iw2⟩ := h4.get hc2
      have q := hx vs h1
      rw [hw] at q
      cases q
      have q := hy ws h3
      rw [hw2] at q
      cases q
      exact pair_new r hT iw iw2
    · obtain ⟨vs, h1, h2⟩ := ha _ _ _ _ e r k
      obtain ⟨ws, h3, h4⟩ := hb _ _ _ _ e r k
      exact ⟨vs, ws, h1, h3, by rw [zipD_len, h2.len, h4.len]; omega⟩
theorem seen_lst {K : PySem.W.Frag} {F : Hp} {xs : List D} {vs : List V} {a : Addr} (h : F a = some (.lst vs)) (i : Iss K F xs vs) : Seen K F SqL a xs kAny := fun Z F1 H1 O1 e r _ => ⟨vs, .of (r.sub _ _ (e _ _ h)), i.ext e⟩
theorem seen_tup {K : PySem.W.Frag} {F : Hp} {xs : List D} {vs : List V} {a : Addr} (h : F a = some (.tup vs)) (i : Iss K F xs vs) : Seen K F SqT a xs kAny := fun Z F1 H1 O1 e r _ => ⟨vs, .of (r.sub _ _ (e _ _ h)), i.ext e⟩
theorem seen_own {K : PySem.W.Frag} {F : Hp} {xs : List D} (p : Addr) : Seen K F SqL p xs (fun O' => O' p = some (.lst xs)) := fun Z F1 H1 O1 e r k => by
  obtain ⟨_, o, h5, ws, rfl, h6, h7⟩ := r.own p _ k
  exact ⟨ws, .of h5, h6⟩
def enumQ (ds : List D) (O1 : OS) (R : DRI) : Prop := match ds with
  | [.lst xs] => R (enumD xs) kAny O1
  | [.atm (.ref p)] => (match O1 p with | some (.lst xs) => R (enumD xs) (fun O' => O' p = some (.lst xs)) O1 | _ => False)
  | _ => False
def zipQ (ds : List D) (O1 : OS) (R : DRI) : Prop := match ds with
  | [.lst xs, .lst ys] => R (zipD xs ys) kAny O1
  | [.tup xs, .tup ys] => R (zipD xs ys) kAny O1
  | [.atm (.ref p), .lst ys] => (match O1 p with | some (.lst xs) => R (zipD xs ys) (fun O' => O' p = some (.lst xs)) O1 | _ => False)
  | _ => False
def iEn (t : DTA) : DTI := fun ρ O R => t ρ O fun ds O1 => enumQ ds O1 R
def iZp (t : DTA) : DTI := fun ρ O R => t ρ O fun ds O1 => zipQ ds O1 R
section
variable {X : Cx} {F0 : Bs} {a b : Expr} {t : DTA} {p pos tpos : Pos} {elts : List Expr} {kk : Nat}
theorem di_en (hg : Gl X "enumerate") (hm : X.mg "enumerate" = none) (ha : DA X F0 [a] t) (hs : starEach [a] X.env = [(false, eval a X.env)] := by rfl) : DI X F0 (.Tuple elts kk tpos) (.Call (.Name "enumerate" p) [a] [] pos) (iEn t) := PI.imp (pi_enum hg hm ha hs) fun σ H R h => by
  obtain ⟨Z, ρ, O, F, Rd, at_, h, cv⟩ := h
  refine ⟨_, ρ, O, F, _, at_, h, fun ds O1 F1 H1 vs r1 e1 i1 h1 => ?_⟩
  unfold enumQ at h1
  split at h1
  · simp only [Iss, Is] at i1
    obtain ⟨v, r, rfl, ⟨q, ws, rfl, h2, h3, h4⟩, rfl⟩ := i1
    exact ⟨q, ws, rfl, .of (r1.sub _ _ h2), cv _ _ _ _ _ _ r1 e1 (itOk_enum (seen_lst h2 h3) (by rw [h3.len]; exact h4)) h1⟩
  · rename_i p
    simp only [Iss, Is] at i1
    obtain ⟨v, r, rfl, rfl, rfl⟩ := i1
    split at h1
    · rename_i xs ep
      obtain ⟨_, o, h2, ws, rfl, h3, h4⟩ := r1.own p _ ep
      exact ⟨p, ws, rfl, .of h2, cv _ _ _ _ _ _ r1 e1 (itOk_enum (seen_own p) (by rw [h3.len]; exact h4)) h1⟩
    · exact h1.elim
  · exact h1.elim
theorem di_zp (hg : Gl X "zip") (hm : X.mg "zip" = none) (ha : DA X F0 [a, b] t) (hs : starEach [a, b] X.env = (false, eval a X.env) :: starEach [b] X.env := by rfl) (hpl : (backTo pos (starEach [b] X.env)).any (·.1) = false := by rfl) :
    DI X F0 (.Tuple elts kk tpos) (.Call (.Name "zip" p) [a, b] [] pos) (iZp t) := PI.imp (RZ.pi_zipA hg hm ha hs hpl) fun σ H R h => by
  obtain ⟨Z, ρ, O, F, Rd, at_, h, cv⟩ := h
  refine ⟨_, ρ, O, F, _, at_, h, fun ds O1 F1 H1 vs r1 e1 i1 h1 => ?_⟩
  unfold zipQ at h1
  split at h1
  · simp only [Iss, Is] at i1
    obtain ⟨v, r, rfl, ⟨q, ws, rfl, h2, h3, h4⟩, v2, r2, rfl, ⟨q2, ws2, rfl, h5, h6, h7⟩, rfl⟩ := i1
    exact ⟨q, q2, ws, ws2, rfl, .inl ⟨.of (r1.sub _ _ h2), .of (r1.sub _ _ h5), cv _ _ _ _ _ _ r1 e1 (itOk_zip (.inl ⟨rfl, seen_lst h2 h3, seen_lst h5 h6⟩) (by rw [h3.len]; exact h4)) h1⟩⟩
  · simp only [Iss, Is] at i1
    obtain ⟨v, r, rfl, ⟨q, ws, rfl, h2, h3, h4⟩, v2, r2, rfl, ⟨q2, ws2, rfl, h5, h6, h7⟩, rfl⟩ := i1
    exact ⟨q, q2, ws, ws2, rfl, .inr ⟨.of (r1.sub _ _ h2), .of (r1.sub _ _ h5), cv _ _ _ _ _ _ r1 e1 (itOk_zip (.inr ⟨rfl, seen_tup h2 h3, seen_tup h5 h6⟩) (by rw [h3.len]; exact h4)) h1⟩⟩
  · rename_i p ys
    simp only [Iss, Is] at i1
    obtain ⟨v, r, rfl, rfl, v2, r2, rfl, ⟨q2, ws2, rfl, h5, h6, h7⟩, rfl⟩ := i1
    split at h1
    · rename_i xs ep
      obtain ⟨_, o, h2, ws, rfl, h3, h4⟩ := r1.own p _ ep
      exact ⟨p, q2, ws, ws2, rfl, .inl ⟨.of h2, .of (r1.sub _ _ h5), cv _ _ _ _ _ _ r1 e1 (itOk_zip (.inl ⟨rfl, seen_own p, fun Z F2 H2 O2 e r _ => ⟨ws2, .of (r.sub _ _ (e _ _ h5)), h6.ext e⟩⟩) (by rw [h3.len]; exact h4)) h1⟩⟩
    · exact h1.elim
  · exact h1.elim
end

/-! ### list(d), sorted(d) of a dict; dict(xs); == of dicts -/
def keyData' (k : KD) : D := match k with | .i n => .int n | .s cs => .str cs
theorem isK_keys {K : PySem.W.Frag} {F : Hp} : ∀ {ds : List (KD × D)} {kvs : List (Key × V)}, IsK K F ds kvs → Iss K F (ds.map fun kd => keyData' kd.1) (kvs.map fun kv => kV kv.1)
  | [], _, h => by simp only [IsK] at h; subst h; exact Iss.nil
  | (k, d) :: ds, _, h => by
    simp only [IsK] at h
    obtain ⟨v, r, rfl, _, h3, h4⟩ := h
    refine Iss.cons ?_ (isK_keys h3)
    cases k with
    | i n => exact Is.mkInt
    | s cs => exact Is.mkStr h4.1 h4.2
def bListD : DRL := fun ds O Q => match ds with
  | [.dic kds] => Q (.lst (kds.map fun kd => keyData' kd.1)) O
  | _ => False
theorem l_listD {K : PySem.W.Frag} : Lb K bListD (fun xs H Q => ∃ (a : Addr) (kvs : List (Key × V)), xs = [.ref a] ∧ Rd H a (.dK kvs) ∧ ∀ p, H p = none → Q (.ref p) (upd H p (.lst (kvs.map fun kv => kV kv.1)))) := by
  intro ds O Qd Z F H vs Q r is h c
  unfold bListD at h
  split at h
  · obtain ⟨v, rfl, a, kvs, rfl, hd, ik, hz⟩ := issV1 is
    exact ⟨a, kvs, rfl, hd, fun p hp => conv_lst c r hp (isK_keys ik) (by rw [List.length_map]; exact hz) h⟩
  · exact h.elim
/-- list(x) of a list, a tuple or a dict -/
def bListA : DRL := fun ds O Q => bListD ds O Q ∨ bList ds O Q
theorem l_listA {K : PySem.W.Frag} : Lb K bListA (fun xs H Q => (∃ (a : Addr) (kvs : List (Key × V)), xs = [.ref a] ∧ Rd H a (.dK kvs) ∧ ∀ p, H p = none → Q (.ref p) (upd H p (.lst (kvs.map fun kv => kV kv.1)))) ∨ rListW K xs H Q) := by
  intro ds O Qd Z F H vs Q r is h c
  rcases h with h | h
  · exact .inl (l_listD ds O Qd Z F H vs Q r is h c)
  · exact .inr (l_list ds O Qd Z F H vs Q r is h c)
def strKeys : List (KD × D) → Option (List (List Nat))
  | [] => some []
  | (.s cs, _) :: r => (strKeys r).map (cs :: ·)
  | _ => none
theorem strKeys_is {K : PySem.W.Frag} {F : Hp} : ∀ {ds : List (KD × D)} {bs : List (List Nat)} {kvs : List (Key × V)}, strKeys ds = some bs → IsK K F ds kvs → kvs.map (·.1) = (bs.map tx).map Sum.inr ∧ ∀ b ∈ bs, Sz b.length ∧ Cok b
  | [], bs, kvs, h, g => by cases h; simp only [IsK] at g; subst g; exact ⟨rfl, fun _ z => by cases z⟩
  | (k, d) :: ds, bs, kvs, h, g => by
    simp only [IsK] at g
    obtain ⟨v, r, rfl, _, h3, h4⟩ := g
    cases k with
    | i n => cases h
    | s cs =>
      simp only [strKeys, Option.map_eq_some_iff] at h
      obtain ⟨bs', h5, rfl⟩ := h
      obtain ⟨e1, e2⟩ := strKeys_is h5 h3
      refine ⟨by rw [List.map_cons, e1]; rfl, fun x hx => ?_⟩
      rcases List.mem_cons.mp hx with e | hx
      · subst e; exact h4
      · exact e2 x hx
def bSortD : DRL := fun ds O Q => match ds with
  | [.dic kds] => ∃ bs, strKeys kds = some bs ∧ bs.length < 64 ∧ ∀ cs : List (List Nat), cs.Perm bs → sortedS (cs.map tx) = true → Q (.lst (cs.map .str)) O
  | _ => False
theorem l_sortD {K : PySem.W.Frag} : Lb K bSortD (fun xs H Q => ∃ (a : Addr) (kvs : List (Key × V)) (ks : List Str), xs = [.ref a] ∧ Rd H a (.dK kvs) ∧ kvs.map (·.1) = ks.map Sum.inr ∧ ks.length < 64 ∧ ∀ ys p, ys.Perm ks → sortedS ys = true → H p = none → Q (.ref p) (upd H p (.lst (ys.map V.str)))) := by
  intro ds O Qd Z F H vs Q r is h c
  unfold bSortD at h
  split at h
  · obtain ⟨v, rfl, a, kvs, rfl, hd, ik, hz⟩ := issV1 is
    obtain ⟨bs, eb, few, h⟩ := h
    obtain ⟨e1, e2⟩ := strKeys_is eb ik
    refine ⟨a, kvs, bs.map tx, rfl, hd, e1, by rw [List.length_map]; exact few, fun ys p py sy hp => ?_⟩
    have ey : ys = (ys.map cd).map tx := by
      rw [List.map_map]
      conv => lhs; rw [← List.map_id ys]
      exact List.map_congr_left fun y _ => (tx_cd y).symm
    have pc : (ys.map cd).Perm bs := by
      have := py.map cd
      rw [List.map_map] at this
      have e : (cd ∘ tx) = id := by funext z; exact cd_tx z
      rw [e, List.map_id] at this
      exact this
    have iss : ∀ {cs : List (List Nat)}, (∀ b ∈ cs, Sz b.length ∧ Cok b) → Iss K F (cs.map .str) ((cs.map tx).map V.str) := fun {cs} => by
      induction cs with
      | nil => intro _; exact Iss.nil
      | cons b cs ih => intro hb; exact Iss.cons (Is.mkStr (hb b List.mem_cons_self).1 (hb b List.mem_cons_self).2) (ih fun x hx => hb x (List.mem_cons_of_mem _ hx))
    have q := h (ys.map cd) pc (by rw [← ey]; exact sy)
    have i := iss (cs := ys.map cd) fun b hb => e2 b (pc.mem_iff.mp hb)
    rw [← ey] at i
    refine conv_lst c r hp i ?_ q
    rw [List.length_map, py.length_eq, List.length_map]
    exact Nat.le_trans (Nat.le_of_lt few) (by rw [sizeLine_eq]; decide)
  · exact h.elim
def pairsKD : List D → Option (List (KD × D))
  | [] => some []
  | .tup [k, d] :: r => match keyD k, pairsKD r with
    | some kd, some l => some ((kd, d) :: l)
    | _, _ => none
  | _ => none
def mergeD (acc more : List (KD × D)) : List (KD × D) := more.foldl (fun a kd => kput a kd.1 kd.2) acc
theorem pairsKD_is {K : PySem.W.Frag} {F : Hp} : ∀ {ds : List D} {l : List (KD × D)} {vs : List V}, pairsKD ds = some l → Iss K F ds vs → ∃ (ps : List Addr) (kvs : List (Key × V)), vs = ps.map V.ref ∧ IsK K F l kvs ∧ Paired (fun p (kv : Key × V) => F p = some (.tup [kV kv.1, kv.2])) ps kvs
  | [], l, vs, h, g => by cases h; simp only [Iss] at g; subst g; exact ⟨[], [], rfl, by simp only [IsK], .nil⟩
  | d :: ds, l, vs, h, g => by
    simp only [Iss] at g
    obtain ⟨v, r, rfl, h2, h3⟩ := g
    unfold pairsKD at h
    split at h
    · rename_i e; cases e
    · rename_i k d' r' e
      obtain ⟨e1, e2⟩ := List.cons.inj e
      subst e1 e2
      split at h
      · rename_i kd l' ek el
        cases h
        obtain ⟨ps, kvs, rfl, h4, h5⟩ := pairsKD_is el h3
        simp only [Is] at h2
        obtain ⟨a, ws, rfl, h6, h7, _⟩ := h2
        simp only [Iss] at h7
        obtain ⟨w1, t1, rfl, i1, w2, t2, rfl, i2, rfl⟩ := h7
        have ew := keyD_isF ek i1
        subst ew
        refine ⟨a :: ps, (kk kd, w2) :: kvs, rfl, ?_, .cons h6 h5⟩
        simp only [IsK]
        refine ⟨w2, kvs, rfl, i2, h4, ?_⟩
        cases k with
        | int i => cases ek; trivial
        | str cs => cases ek; simp only [Is] at i1; exact i1.2
        | _ => cases ek
      · cases h
    · cases h
theorem kput_keys {κ : Type} [DecidableEq κ] (k : κ) (e : D) : ∀ ds : List (κ × D), (kget ds k = none ∧ (kput ds k e).map (·.1) = ds.map (·.1) ++ [k]) ∨ ((∃ d, kget ds k = some d) ∧ (kput ds k e).map (·.1) = ds.map (·.1))
  | [] => .inl ⟨rfl, rfl⟩
  | (k', d) :: r => by
    unfold kput kget
    by_cases c : k' = k
    · rw [if_pos c, if_pos c]; exact .inr ⟨⟨d, rfl⟩, rfl⟩
    · rw [if_neg c, if_neg c]
      rcases kput_keys k e r with ⟨h1, h2⟩ | ⟨h1, h2⟩
      · exact .inl ⟨h1, by rw [List.map_cons, h2]; rfl⟩
      · exact .inr ⟨h1, by rw [List.map_cons, h2]; rfl⟩
theorem kput_nd {κ : Type} [DecidableEq κ] (k : κ) (e : D) {ds : List (κ × D)} (n : (ds.map (·.1)).Nodup) : ((kput ds k e).map (·.1)).Nodup := by
  rcases kput_keys k e ds with ⟨h1, h2⟩ | ⟨h1, h2⟩
  · rw [h2, List.nodup_append]
    refine ⟨n, by simp, fun a ha b hb => ?_⟩
    simp only [List.mem_singleton] at hb
    subst hb
    rintro rfl
    exact kget_notin h1 ha
  · rw [h2]; exact n
theorem merge_is {K : PySem.W.Frag} {F : Hp} : ∀ {l : List (KD × D)} {kvs : List (Key × V)} {acc : List (KD × D)} {avs : List (Key × V)}, IsK K F l kvs → (acc.map (·.1)).Nodup → IsK K F acc avs → IsK K F (mergeD acc l) (mergeK avs kvs) ∧ ((mergeD acc l).map (·.1)).Nodup
  | [], _, _, _, h, n, g => by simp only [IsK] at h; subst h; exact ⟨g, n⟩
  | (k, d) :: l, _, acc, avs, h, n, g => by
    simp only [IsK] at h
    obtain ⟨v, r, rfl, h2, h3, h4⟩ := h
    exact merge_is (acc := kput acc k d) (avs := putK avs (kk k) v) h3 (kput_nd k d n) (g.put n k h4 h2)
def bDictM : DRL := fun ds O Q => match ds with
  | [.lst xs] => ∃ l, pairsKD xs = some l ∧ ∀ p, O p = none → Q (.atm (.ref p)) (oput O p (.dic (mergeD [] l)))
  | _ => False
theorem paired_sq {K : PySem.W.Frag} {F H : Hp} (e : Ext F H) {ps : List Addr} {kvs : List (Key × V)} (h : Paired (fun p (kv : Key × V) => F p = some (.tup [kV kv.1, kv.2])) ps kvs) : Paired (fun p (kv : Key × V) => SqT K H p [kV kv.1, kv.2]) ps kvs := by
  induction h with
  | nil => exact .nil
  | cons h1 h2 ih => exact .cons (.of (e _ _ h1)) ih
theorem merge_len {l : List (KD × D)} : ∀ acc : List (KD × D), (mergeD acc l).length ≤ acc.length + l.length := by
  induction l with
  | nil => intro acc; exact Nat.le_refl _
  | cons x l ih =>
    intro acc
    have h := ih (kput acc x.1 x.2)
    have e : (kput acc x.1 x.2).length ≤ acc.length + 1 := by
      rcases kput_keys x.1 x.2 acc with ⟨_, h2⟩ | ⟨_, h2⟩
      · have := congrArg List.length h2
        simp only [List.length_map, List.length_append, List.length_singleton] at this
        omega
      · have := congrArg List.length h2
        simp only [List.length_map] at this
        omega
    show (mergeD (kput acc x.1 x.2) l).length ≤ _
    rw [List.length_cons]
    omega
theorem pairsKD_len : ∀ {ds : List D} {l : List (KD × D)}, pairsKD ds = some l → l.length = ds.length
  | [], l, h => by cases h; rfl
  | d :: ds, l, h => by
    unfold pairsKD at h
    split at h
    · rename_i e; cases e
    · rename_i k d' r' e
      obtain ⟨e1, e2⟩ := List.cons.inj e
      subst e1 e2
      split at h
      · rename_i kd l' ek el
        cases h
        rw [List.length_cons, List.length_cons, pairsKD_len el]
      · cases h
    · cases h
theorem l_dictM {K : PySem.W.Frag} : Lb K bDictM (fun xs H Q => ∃ (a : Addr) (ps : List Addr) (kvs : List (Key × V)), xs = [.ref a] ∧ SqL K H a (ps.map V.ref) ∧ Paired (fun p kv => SqT K H p [kV kv.1, kv.2]) ps kvs ∧
    ∀ p, H p = none → Q (.ref p) (upd H p (.dK (mergeK [] kvs)))) := by
  intro ds O Qd Z F H vs Q r is h c
  unfold bDictM at h
  split at h
  · obtain ⟨v, rfl, a, ws, rfl, hd, il, hz⟩ := issV1 is
    obtain ⟨l, el, h⟩ := h
    obtain ⟨ps, kvs, rfl, ik, hp⟩ := pairsKD_is el il
    obtain ⟨im, nm⟩ := merge_is (acc := []) (avs := []) ik List.nodup_nil (by simp only [IsK])
    refine ⟨a, ps, kvs, rfl, .of hd, paired_sq r.sub hp, fun p hpn => conv_own (d := .dic (mergeD [] l)) c r hpn (Own.ofDic im ?_) (h p (r.fresh hpn).2)⟩
    rw [← im.len]
    have := merge_len (l := l) []
    rw [pairsKD_len el, il.len] at this
    have hz' : (ps.map V.ref).length ≤ sizeLine := hz
    simp only [List.length_nil, Nat.zero_add] at this
    exact Nat.le_trans this hz'
  · exact h.elim
/-- == of two dicts that are equal, their values flat -/
def flatD : D → Bool
  | .non => true
  | .bl _ => true
  | .int _ => true
  | .str _ => true
  | _ => false
def dictSame (ks ls : List (KD × D)) : Prop := ks.length = ls.length ∧ ∀ p ∈ ks, kget ls p.1 = some p.2 ∧ flatD p.2 = true
def cEqDic : DR2 := fun x y O Q => match x, y with
  | .dic ks, .dic ls => dictSame ks ls ∧ Q (.bl true) O
  | _, _ => False
def cNeDic : DR2 := fun x y O Q => match x, y with
  | .dic ks, .dic ls => dictSame ks ls ∧ Q (.bl false) O
  | _, _ => False
def rEqDR (b : Bool) : R2 := fun x y H Q => ∃ a c ks ls, x = .ref a ∧ y = .ref c ∧ Rd H a (.dK ks) ∧ Rd H c (.dK ls) ∧ ks.length = ls.length ∧ (∀ p ∈ ks, valV ls p.1 = some p.2 ∧ flatB p.2 = true) ∧ Q (.bl b) H
section
variable {X : Cx}
theorem op_eqDR (hu : X.A.units + 200 < cLine) : OpR X (compareOp .Eq) (rEqDR true) := by
  intro pins s σ H x y v u Q I rx ry h
  obtain ⟨a, b, ks, ls, rfl, rfl, ea, eb, hlen, hp, q⟩ := h
  obtain rfl : v = Value.ref a := rx
  obtain rfl : u = Value.ref b := ry
  obtain ⟨_, ya, va, ra, da⟩ := dk_rd I.hok ea
  obtain ⟨_, yb, vb, rb, db⟩ := dk_rd I.hok eb
  have hl : va.length = vb.length := by rw [← ra.length, ← rb.length]; exact hlen
  exact PySem.W.keq_eq (knd := mixKind X.prog X.w) (r := true) ya yb da db (by omega) (fun _ => hits_all rb ra hp) (fin_bl I q (by simp [hl]))
theorem op_neDR (hu : X.A.units + 200 < cLine) : OpR X (compareOp .NotEq) (rEqDR false) := by
  intro pins s σ H x y v u Q I rx ry h
  obtain ⟨a, b, ks, ls, rfl, rfl, ea, eb, hlen, hp, q⟩ := h
  obtain rfl : v = Value.ref a := rx
  obtain rfl : u = Value.ref b := ry
  obtain ⟨_, ya, va, ra, da⟩ := dk_rd I.hok ea
  obtain ⟨_, yb, vb, rb, db⟩ := dk_rd I.hok eb
  have hl : va.length = vb.length := by rw [← ra.length, ← rb.length]; exact hlen
  exact PySem.W.keq_ne (knd := mixKind X.prog X.w) (r := true) ya yb da db (by omega) (fun _ => hits_all rb ra hp) (fin_bl I q (by simp [hl]))
end
theorem isK_mem {K : PySem.W.Frag} {F : Hp} : ∀ {ds : List (KD × D)} {kvs : List (Key × V)}, IsK K F ds kvs → ∀ p ∈ kvs, ∃ kd d, (kd, d) ∈ ds ∧ p.1 = kk kd ∧ Is K F d p.2
  | [], _, h, p, m => by simp only [IsK] at h; subst h; cases m
  | (k, d) :: ds, _, h, p, m => by
    simp only [IsK] at h
    obtain ⟨v, r, rfl, h2, h3, h4⟩ := h
    rcases List.mem_cons.mp m with e | m
    · subst e; exact ⟨k, d, List.mem_cons_self, rfl, h2⟩
    · obtain ⟨kd, d', h5, h6⟩ := isK_mem h3 p m
      exact ⟨kd, d', List.mem_cons_of_mem _ h5, h6⟩
theorem flat_eq {K : PySem.W.Frag} {F : Hp} {d : D} {v w : V} (f : flatD d = true) (h : Is K F d v) (g : Is K F d w) : v = w ∧ flatB v = true := by
  cases d with
  | non => simp only [Is] at h g; subst h; exact ⟨g.symm, rfl⟩
  | bl b => simp only [Is] at h g; subst h; exact ⟨g.symm, rfl⟩
  | int b => simp only [Is] at h g; subst h; exact ⟨g.symm, rfl⟩
  | str b => simp only [Is] at h g; rw [h.1, g.1]; exact ⟨rfl, rfl⟩
  | _ => cases f
theorem same_is {K : PySem.W.Frag} {F : Hp} {ks ls : List (KD × D)} {kvs lvs : List (Key × V)} (h : dictSame ks ls) (a : IsK K F ks kvs) (b : IsK K F ls lvs) : kvs.length = lvs.length ∧ ∀ p ∈ kvs, valV lvs p.1 = some p.2 ∧ flatB p.2 = true := by
  refine ⟨by rw [← a.len, ← b.len]; exact h.1, fun p hp => ?_⟩
  obtain ⟨kd, d, h1, h2, h3⟩ := isK_mem a p hp
  obtain ⟨h4, h5⟩ := h.2 _ h1
  rw [h2]
  rcases b.get kd with ⟨q, _⟩ | ⟨d2, w, q1, q2, q3⟩
  · rw [q] at h4; cases h4
  · rw [q1] at h4
    cases h4
    obtain ⟨e, f⟩ := flat_eq h5 h3 q3
    exact ⟨by rw [q2, e], f⟩
theorem l_eqDic {K : PySem.W.Frag} : Lop K cEqDic (rEqDR true) := fun x y O Qd Z F H vx vy Q r ix iy h c => by
  unfold cEqDic at h
  split at h
  · obtain ⟨a, kvs, rfl, h1, h2, _⟩ := ix
    obtain ⟨b, lvs, rfl, h3, h4, _⟩ := iy
    obtain ⟨s1, s2⟩ := same_is h.1 h2 h4
    exact ⟨a, b, kvs, lvs, rfl, rfl, h1, h3, s1, s2, c _ _ _ _ _ r Ext.refl Is.mkBl h.2⟩
  · exact h.elim
theorem l_neDic {K : PySem.W.Frag} : Lop K cNeDic (rEqDR false) := fun x y O Qd Z F H vx vy Q r ix iy h c => by
  unfold cNeDic at h
  split at h
  · obtain ⟨a, kvs, rfl, h1, h2, _⟩ := ix
    obtain ⟨b, lvs, rfl, h3, h4, _⟩ := iy
    obtain ⟨s1, s2⟩ := same_is h.1 h2 h4
    exact ⟨a, b, kvs, lvs, rfl, rfl, h1, h3, s1, s2, c _ _ _ _ _ r Ext.refl Is.mkBl h.2⟩
  · exact h.elim
end DS

namespace DS
open PySem PySem.Spec PyProof.Rows L2

/-! ### [e for x in xs if .. for y in ys if ..] -/
def exI (K : PySem.W.Frag) (t : DTI) : TI := fun σ H R => ∃ B, liftI K B t σ H R
theorem pi_ex {X : Cx} {tg e : Expr} {t : DTI} (h : ∀ B, DI X B tg e t) : PI X tg e (exI X.K t) := ⟨fun pins s σ H R I ⟨B, w⟩ => (h B).run pins s σ H R I w⟩
/-- the turns of an inner source, at one list that is made -/
def innerQ (tg : Tgt) (vs : List Nat) (tt : DTT) (te : Env' → OS → List D → (List D → OS → Prop) → Prop) (its : List D) (keep : OS → Prop) (ρ : Env') (acc : List D) (O1 : OS) (fin : List D → OS → Prop) : Prop := ∃ W : Nat → List D → OS → Prop, W 0 acc O1 ∧ (∀ i acc O, i ≤ its.length → W i acc O → keep O) ∧
  (∀ i d acc O, its[i]? = some d → W i acc O → tg.to d (blank ρ vs) fun ρ2 => tt ρ2 O fun b O2 => if b = true then te ρ2 O2 acc (W (i + 1)) else W (i + 1) acc O2) ∧ ∀ acc O, W its.length acc O → fin acc O
def addQ (te : DTE) : Env' → OS → List D → (List D → OS → Prop) → Prop := fun ρ O acc k => te ρ O fun y O3 => acc.length < sizeLine ∧ k (acc ++ [y]) O3
def dLc2W (ti : DTI) (tg : Tgt) (tt : DTT) (ti1 : DTI) (tg1 : Tgt) (tt1 : DTT) (vs vs1 : List Nat) (te : DTE) (fin : List D → OS → DQ → Prop) : DTE := fun ρ O Q => ti ρ O fun its keep O1 =>
  innerQ tg vs tt (fun ρ2 O2 acc k => ti1 ρ2 O2 fun its1 keep1 O3 => innerQ tg1 vs1 tt1 (addQ te) its1 keep1 ρ2 acc O3 k) its keep ρ [] O1 fun acc O2 => fin acc O2 Q
section
variable {X : Cx} {F0 : Bs} {ti ti1 : DTI} {tg tg1 : Tgt} {vs vs1 : List Nat} {tt tt1 : DTT} {te : DTE} {fin : List D → OS → DQ → Prop}
theorem lift_lc2 (hf : FinOk fin) (hok : tg.ok vs) (hok1 : tg1.ok vs1) {σ : L2.St} {H : Hp} {Q : VK} (h : liftE X.K F0 (dLc2W ti tg tt ti1 tg1 tt1 vs vs1 te fin) σ H Q) :
    tLc2 (liftI X.K F0 ti) (tg.g X.K) (exT X.K tt) (exI X.K ti1) (tg1.g X.K) (exT X.K tt1) (exE X.K te) vs vs1 σ H Q := by
  obtain ⟨Z, ρ, O, F, Qd, at_, h, cv⟩ := h
  refine ⟨_, ρ, O, F, _, at_, h, fun its keep O1 F1 H1 J r1 e1 ok ⟨W, w0, wk, step, fi⟩ D hD => ?_⟩
  have a1 := r1.apart hD
  have env1 : RepE X.K F1 σ ρ := at_.env.ext e1
  refine ⟨fun i m H => i + m = its.length ∧ ∃ acc vacc O F', Rep X.K Z F' H O ∧ Ext F1 F' ∧ Apart Z F' O D ∧ H D = some (.lst vacc) ∧ Iss X.K F' acc vacc ∧ Sz vacc.length ∧ W i acc O,
    ⟨its.length, by omega, [], [], O1, F1, r1.beside a1, Ext.refl, a1, upd_same, Iss.nil, Nat.zero_le _, w0⟩, ?_⟩
  rintro i m H2 ⟨em, acc, vacc, O2, F2, r2, e2, a2, h2, i2, z2, w2⟩
  have rh := r2.hide a2 h2
  have k2 := wk i acc O2 (by omega) w2
  by_cases hi : i < its.length
  · refine .inr ⟨ok.go _ i F2 H2 O2 e2 rh k2 hi, fun H' => ∃ acc vacc O F', Rep X.K Z F' H' O ∧ Ext F1 F' ∧ Apart Z F' O D ∧ H' D = some (.lst vacc) ∧ Iss X.K F' acc vacc ∧ Sz vacc.length ∧ W (i + 1) acc O, fun H' h => ⟨m - 1, by omega, by omega, h⟩, fun x H3 y => ?_⟩
    obtain ⟨F3, r3, e3, i3⟩ := ok.yld _ i F2 H2 O2 x H3 its[i] e2 rh k2 (List.getElem?_eq_getElem hi) y
    refine Tgt.run hok (env1.ext (e2.trans e3)) r3 i3 (step i its[i] acc O2 (List.getElem?_eq_getElem hi) w2) fun σ4 ρ4 hw re4 q4 => ⟨hw, (F3, upd Z D (.lst vacc)), _, ρ4, O2, F3, _, ⟨rfl, Ext.refl, re4, r3⟩, q4, fun b O5 F5 H5 r5 e5 q5 => ?_⟩
    cases b with
    | true =>
      refine ⟨(F5, upd Z D (.lst vacc)), _, ρ4, O5, F5, _, ⟨rfl, Ext.refl, re4.ext e5, r5⟩, q5, fun its1 keep1 O6 F6 H6 J1 r6 e6 ok1 ⟨W1, v0, vk, step1, fi1⟩ => ?_⟩
      obtain ⟨s6, a6, h6⟩ := r6.unhide a1.z
      have e26 : Ext F2 F6 := e3.trans (e5.trans e6)
      refine ⟨fun j k H => j + k = its1.length ∧ ∃ acc vacc O F', Rep X.K Z F' H O ∧ Ext F6 F' ∧ Apart Z F' O D ∧ H D = some (.lst vacc) ∧ Iss X.K F' acc vacc ∧ Sz vacc.length ∧ W1 j acc O,
        ⟨its1.length, by omega, acc, vacc, O6, F6, s6, Ext.refl, a6, h6, i2.ext e26, z2, v0⟩, ?_⟩
      rintro j k H7 ⟨ej, acc7, vacc7, O7, F7, r7, e7, a7, h7, i7, z7, w7⟩
      have rh7 := r7.hide a7 h7
      have k7 := vk j acc7 O7 (by omega) w7
      by_cases hj : j < its1.length
      · refine .inr ⟨ok1.go _ j F7 H7 O7 e7 rh7 k7 hj, fun H' => ∃ acc vacc O F', Rep X.K Z F' H' O ∧ Ext F6 F' ∧ Apart Z F' O D ∧ H' D = some (.lst vacc) ∧ Iss X.K F' acc vacc ∧ Sz vacc.length ∧ W1 (j + 1) acc O, fun H' h => ⟨k - 1, by omega, by omega, h⟩, fun x1 H8 y1 => ?_⟩
        obtain ⟨F8, r8, e8, i8⟩ := ok1.yld _ j F7 H7 O7 x1 H8 its1[j] e7 rh7 k7 (List.getElem?_eq_getElem hj) y1
        refine Tgt.run hok1 (re4.ext (e5.trans (e6.trans (e7.trans e8)))) r8 i8 (step1 j its1[j] acc7 O7 (List.getElem?_eq_getElem hj) w7) fun σ9 ρ9 hw9 re9 q9 => ⟨hw9, (F8, upd Z D (.lst vacc7)), _, ρ9, O7, F8, _, ⟨rfl, Ext.refl, re9, r8⟩, q9, fun b1 O10 F10 H10 r10 e10 q10 => ?_⟩
        cases b1 with
        | true =>
          refine ⟨(F10, upd Z D (.lst vacc7)), _, ρ9, O10, F10, _, ⟨rfl, Ext.refl, re9.ext e10, r10⟩, q10, fun dy O11 F11 H11 v r11 e11 i11 ⟨q11, q12⟩ => ?_⟩
          obtain ⟨s11, a11, h11⟩ := r11.unhide a1.z
          have ee : Ext F7 F11 := e8.trans (e10.trans e11)
          have hlt : vacc7.length < sizeLine := by rw [← i7.len]; exact q11
          exact ⟨vacc7, h11, hlt, acc7 ++ [dy], vacc7 ++ [v], O11, F11, s11.beside a11, e7.trans ee, a11, upd_same, (i7.ext ee).app (Iss.cons i11 Iss.nil), by rw [List.length_append]; exact hlt, q12⟩
        | false =>
          obtain ⟨s11, a11, h11⟩ := r10.unhide a1.z
          have ee : Ext F7 F10 := e8.trans e10
          exact ⟨acc7, vacc7, O10, F10, s11, e7.trans ee, a11, h11, i7.ext ee, z7, q10⟩
      · have e : j = its1.length := by omega
        subst e
        exact .inl ⟨ok1.stop _ F7 H7 O7 e7 rh7 k7, acc7, vacc7, O7, F7, r7, e2.trans (e26.trans e7), a7, h7, i7, z7, fi1 acc7 O7 w7⟩
    | false =>
      obtain ⟨r7, a7, h7⟩ := r5.unhide a1.z
      have ee : Ext F2 F5 := e3.trans e5
      exact ⟨acc, vacc, O5, F5, r7, e2.trans ee, a7, h7, i2.ext ee, z2, q5⟩
  · have e : i = its.length := by omega
    subst e
    exact .inl ⟨ok.stop _ F2 H2 O2 e2 rh k2, hf _ _ _ _ _ _ _ _ _ _ r2 a2 h2 i2 z2 (fi acc O2 w2) (cv.ext (e1.trans e2))⟩
end
section
variable {X : Cx} {F0 : Bs} {elt tg iter tg1 iter1 : Expr} {ifs ifs1 : List Expr} {scope : Scope} {own : List (Str × Nat)} {pos spos py : Pos} {ti ti1 : DTI} {tgt tgt1 : Tgt} {tt tt1 : DTT} {te : DTE} {fin : List D → OS → DQ → Prop} {y : Str} {vs1 : List Nat}
theorem de_lc2 (hf : FinOk fin) (hc : X.calm = true) (hN : X.N.Nodup) (hi : DI X F0 tg iter ti) (ok : BlkOk X.N X.env.scope scope own) (hv : ∀ i ∈ vs1, i ∈ own.map (·.2)) (hok : tgt.ok (own.map (·.2))) (hok1 : tgt1.ok vs1)
    (hg : ∀ (s : Shared) (H : Hp) (C : Addr) (cl : List (Str × Addr)) (fp : List Addr), PG (X.blk s H scope (compEnvC scope cl C X.env) fp) tg (tgt.g X.K)) (ht : ∀ (s : Shared) (H : Hp) (C : Addr) (cl : List (Str × Addr)) (fp : List Addr) (B : Bs), PTs (X.blk s H scope (compEnvC scope cl C X.env) fp) ifs (liftT X.K B tt))
    (hi1 : ∀ (s : Shared) (H : Hp) (C : Addr) (cl : List (Str × Addr)) (fp : List Addr) (B : Bs), DI (X.blk s H scope (compEnvC scope cl C X.env) fp) B tg1 iter1 ti1)
    (hg1 : ∀ (s : Shared) (H : Hp) (C : Addr) (cl : List (Str × Addr)) (fp : List Addr), PG (X.blk s H scope (compEnvC scope cl C X.env) fp) tg1 (tgt1.g X.K)) (ht1 : ∀ (s : Shared) (H : Hp) (C : Addr) (cl : List (Str × Addr)) (fp : List Addr) (B : Bs), PTs (X.blk s H scope (compEnvC scope cl C X.env) fp) ifs1 (liftT X.K B tt1))
    (he : ∀ (s : Shared) (H : Hp) (C : Addr) (cl : List (Str × Addr)) (fp : List Addr) (B : Bs), DE (X.blk s H scope (compEnvC scope cl C X.env) fp) B elt te) (hs : ∀ x, foldedSetIterable iter X.env x = pure x := by intro _; rfl) (hs1 : ∀ env x, foldedSetIterable iter1 env x = pure x := by intro _ _; rfl) :
    DE X F0 (.ListComp elt [⟨tg, iter, ifs, 0⟩, ⟨tg1, iter1, ifs1, 0⟩] scope pos) (dLc2W ti tgt tt ti1 tgt1 tt1 (own.map (·.2)) vs1 te fin) :=
  PE.imp (pe_lc2 hc hN hi ok hv hg (fun s H C cl fp => pts_ex (ht s H C cl fp)) (fun s H C cl fp => pi_ex (hi1 s H C cl fp)) hg1 (fun s H C cl fp => pts_ex (ht1 s H C cl fp)) (fun s H C cl fp => pe_ex (he s H C cl fp)) hs hs1) fun _ _ _ h => lift_lc2 hf hok hok1 h
theorem ds_setLc2 {i : Nat} (hf : FinOk fin) (hc : X.calm = true) (hN : X.N.Nodup) (hy : X.N[i]? = some y) (hyl : X.env.scope.names.lookup y = some .local)
    (hsw : swapsWith (.ListComp elt [⟨tg, iter, ifs, 0⟩, ⟨tg1, iter1, ifs1, 0⟩] scope pos) (some (.Name y py)) spos.line X.env = pure true) (hi : DI X F0 tg iter ti) (ok : BlkOk X.N X.env.scope scope own) (hv : ∀ i ∈ vs1, i ∈ own.map (·.2)) (hok : tgt.ok (own.map (·.2))) (hok1 : tgt1.ok vs1)
    (hg : ∀ (s : Shared) (H : Hp) (C : Addr) (cl : List (Str × Addr)) (fp : List Addr), PG (X.blk s H scope (compEnvC scope cl C X.env) fp) tg (tgt.g X.K)) (ht : ∀ (s : Shared) (H : Hp) (C : Addr) (cl : List (Str × Addr)) (fp : List Addr) (B : Bs), PTs (X.blk s H scope (compEnvC scope cl C X.env) fp) ifs (liftT X.K B tt))
    (hi1 : ∀ (s : Shared) (H : Hp) (C : Addr) (cl : List (Str × Addr)) (fp : List Addr) (B : Bs), DI (X.blk s H scope (compEnvC scope cl C X.env) fp) B tg1 iter1 ti1)
    (hg1 : ∀ (s : Shared) (H : Hp) (C : Addr) (cl : List (Str × Addr)) (fp : List Addr), PG (X.blk s H scope (compEnvC scope cl C X.env) fp) tg1 (tgt1.g X.K)) (ht1 : ∀ (s : Shared) (H : Hp) (C : Addr) (cl : List (Str × Addr)) (fp : List Addr) (B : Bs), PTs (X.blk s H scope (compEnvC scope cl C X.env) fp) ifs1 (liftT X.K B tt1))
    (he : ∀ (s : Shared) (H : Hp) (C : Addr) (cl : List (Str × Addr)) (fp : List Addr) (B : Bs), DE (X.blk s H scope (compEnvC scope cl C X.env) fp) B elt te) (hs : ∀ x, foldedSetIterable iter X.env x = pure x := by intro _; rfl) (hs1 : ∀ env x, foldedSetIterable iter1 env x = pure x := by intro _ _; rfl) :
    DSt X F0 (.Assign [.Name y py] (.ListComp elt [⟨tg, iter, ifs, 0⟩, ⟨tg1, iter1, ifs1, 0⟩] scope pos) spos) (sSet i (dLc2W ti tgt tt ti1 tgt1 tt1 (own.map (·.2)) vs1 te fin)) :=
  PS.imp (ps_setLc2 hc hN hy hyl hsw hi ok hv hg (fun s H C cl fp => pts_ex (ht s H C cl fp)) (fun s H C cl fp => pi_ex (hi1 s H C cl fp)) hg1 (fun s H C cl fp => pts_ex (ht1 s H C cl fp)) (fun s H C cl fp => pe_ex (he s H C cl fp)) hs hs1) fun D σ H h => lift_lc2 hf hok hok1 (lift_set h)
end
/-- what a source gives, one by one, when no object changes -/
theorem inner_pure {α : Type} {tg : Tgt} {vs : List Nat} {tt : DTT} {te : Env' → OS → List D → (List D → OS → Prop) → Prop} {keep : OS → Prop} {ρ : Env'} {O : OS} {acc : List D} {fin : List D → OS → Prop} (l : List α) (e : α → D) (f : α → List D) (hk : keep O)
    (hd : ∀ (l1 : List α) (a : α) (l2 : List α), l = l1 ++ a :: l2 → tg.to (e a) (blank ρ vs) fun ρ2 => ∀ k : List D → OS → Prop, k (acc ++ l1.flatMap f ++ f a) O → tt ρ2 O fun b O2 => if b = true then te ρ2 O2 (acc ++ l1.flatMap f) k else k (acc ++ l1.flatMap f) O2)
    (hq : fin (acc ++ l.flatMap f) O) : innerQ tg vs tt te (l.map e) keep ρ acc O fin := by
  refine ⟨fun i ac O' => O' = O ∧ ac = acc ++ (l.take i).flatMap f, ⟨rfl, by simp⟩, fun i ac O' _ h => by rw [h.1]; exact hk, fun i d ac O' ei h => ?_, fun ac O' h => ?_⟩
  · obtain ⟨rfl, rfl⟩ := h
    rw [List.getElem?_map] at ei
    cases ea : l[i]? with
    | none => rw [ea] at ei; cases ei
    | some a =>
      rw [ea] at ei
      cases ei
      have hi := (List.getElem?_eq_some_iff.mp ea).1
      have el : l = l.take i ++ a :: l.drop (i + 1) := by
        have h := List.take_append_drop i l
        rw [List.drop_eq_getElem_cons hi, (List.getElem?_eq_some_iff.mp ea).2] at h
        exact h.symm
      refine Tgt.to_mono (fun ρ2 z => ?_) (hd _ a _ el)
      have et : l.take (i + 1) = l.take i ++ [a] := by rw [List.take_add_one, ea]; rfl
      refine z _ ⟨rfl, ?_⟩
      rw [et, List.flatMap_append, List.append_assoc]
      simp
  · obtain ⟨rfl, rfl⟩ := h
    rw [List.length_map, List.take_length]
    exact hq
/-- [g a b for a in l for b in m a] -/
theorem lc2_pure {α β : Type} {ti ti1 : DTI} {tg tg1 : Tgt} {vs vs1 : List Nat} {te : DTE} {fin : List D → OS → DQ → Prop} {ρ : Env'} {O : OS} {Q : DQ} (l : List α) (e : α → D) (m : α → List β) (e1 : β → D) (g : α → β → D)
    (hti : ∀ R : DRI, (∀ keep : OS → Prop, keep O → R (l.map e) keep O) → ti ρ O R)
    (hz : (l.flatMap fun a => (m a).map (g a)).length ≤ sizeLine)
    (hd : ∀ a ∈ l, tg.to (e a) (blank ρ vs) fun ρ2 => (∀ R : DRI, (∀ keep : OS → Prop, keep O → R ((m a).map e1) keep O) → ti1 ρ2 O R) ∧ ∀ b ∈ m a, tg1.to (e1 b) (blank ρ2 vs1) fun ρ3 => ∀ k : DQ, k (g a b) O → te ρ3 O k)
    (hq : fin (l.flatMap fun a => (m a).map (g a)) O Q) : dLc2W ti tg tYesD ti1 tg1 tYesD vs vs1 te fin ρ O Q := by
  refine hti _ fun keep hk => inner_pure l e (fun a => (m a).map (g a)) hk (fun l1 a l2 el => ?_) (by simpa using hq)
  have hm : a ∈ l := by rw [el]; simp
  refine Tgt.to_mono (fun ρ2 z k hk2 => ?_) (hd a hm)
  refine w_ift (B := k ([] ++ l1.flatMap fun a => (m a).map (g a)) O) ?_
  refine z.1 _ fun keep1 hk1 => inner_pure (m a) e1 (fun b => [g a b]) hk1 (fun m1 b m2 em => ?_) ?_
  · have hb : b ∈ m a := by rw [em]; simp
    refine Tgt.to_mono (fun ρ3 z3 k3 hk3 => ?_) (z.2 b hb)
    refine w_ift (B := k3 ([] ++ (l1.flatMap fun a => (m a).map (g a)) ++ m1.flatMap fun b => [g a b]) O) ?_
    refine z3 _ ⟨?_, hk3⟩
    have h1 : ((l.flatMap fun a => (m a).map (g a))).length = (l1.flatMap fun a => (m a).map (g a)).length + ((m1.map (g a)).length + ((m2.map (g a)).length + 1)) + (l2.flatMap fun a => (m a).map (g a)).length := by
      rw [el, List.flatMap_append, List.flatMap_cons, em]
      simp only [List.length_append, List.map_append, List.map_cons, List.length_cons]
      omega
    have h2 : ∀ q : List β, (q.flatMap fun b => [g a b]) = q.map (g a) := fun q => by
      induction q with
      | nil => rfl
      | cons x xs ih => rw [List.flatMap_cons, ih, List.map_cons]; rfl
    rw [h2]
    simp only [List.nil_append, List.length_append]
    omega
  · have h2 : ∀ q : List β, (q.flatMap fun b => [g a b]) = q.map (g a) := fun q => by
      induction q with
      | nil => rfl
      | cons x xs ih => rw [List.flatMap_cons, ih, List.map_cons]; rfl
    rw [h2]
    exact hk2
end DS

namespace DS
open PySem PySem.Spec PyProof.Rows L2

/-! ### {k: v for x in xs if ..} -/
def dDc (ti : DTI) (tg : Tgt) (vs : List Nat) (tt : DTT) (tk tv : DTE) : DTE := fun ρ O Q => ti ρ O fun its keep O1 => ∃ W : Nat → List (KD × D) → OS → Prop, W 0 [] O1 ∧ (∀ i acc O, i ≤ its.length → W i acc O → keep O) ∧
  (∀ i d acc O, its[i]? = some d → W i acc O → tg.to d (blank ρ vs) fun ρ2 => tt ρ2 O fun b O2 => if b = true then tk ρ2 O2 fun y O3 => tv ρ2 O3 fun z O4 => ∃ k, keyD y = some k ∧ W (i + 1) (kput acc k z) O4 else W (i + 1) acc O2) ∧
  ∀ acc O, W its.length acc O → ∀ p, O p = none → Q (.atm (.ref p)) (oput O p (.dic acc))
theorem kput_len {acc : List (KD × D)} {k : KD} {z : D} : (kput acc k z).length ≤ acc.length + 1 := by
  rcases kput_keys k z acc with ⟨_, h2⟩ | ⟨_, h2⟩
  · have := congrArg List.length h2
    simp only [List.length_map, List.length_append, List.length_singleton] at this
    omega
  · have := congrArg List.length h2
    simp only [List.length_map] at this
    omega
section
variable {X : Cx} {F0 : Bs} {ti : DTI} {tg : Tgt} {vs : List Nat} {tt : DTT} {tk tv : DTE}
theorem lift_dc (hok : tg.ok vs) {σ : L2.St} {H : Hp} {Q : VK} (h : liftE X.K F0 (dDc ti tg vs tt tk tv) σ H Q) : tDc (liftI X.K F0 ti) (tg.g X.K) (exT X.K tt) (exE X.K tk) (exE X.K tv) vs σ H Q := by
  obtain ⟨Z, ρ, O, F, Qd, at_, h, cv⟩ := h
  refine ⟨_, ρ, O, F, _, at_, h, fun its keep O1 F1 H1 J r1 e1 ok ⟨W, w0, wk, step, fi⟩ D hD => ?_⟩
  have a1 := r1.apart hD
  have env1 : RepE X.K F1 σ ρ := at_.env.ext e1
  refine ⟨fun i m H => i + m = its.length ∧ ∃ acc vacc O F', Rep X.K Z F' H O ∧ Ext F1 F' ∧ Apart Z F' O D ∧ H D = some (.dK vacc) ∧ IsK X.K F' acc vacc ∧ acc.length ≤ i ∧ (acc.map (·.1)).Nodup ∧ W i acc O,
    ⟨its.length, by omega, [], [], O1, F1, r1.beside a1, Ext.refl, a1, upd_same, by simp only [IsK], Nat.zero_le _, List.nodup_nil, w0⟩, ?_⟩
  rintro i m H2 ⟨em, acc, vacc, O2, F2, r2, e2, a2, h2, i2, l2, n2, w2⟩
  have rh := r2.hide a2 h2
  have k2 := wk i acc O2 (by omega) w2
  by_cases hi : i < its.length
  · refine .inr ⟨ok.go _ i F2 H2 O2 e2 rh k2 hi, fun H' => ∃ acc vacc O F', Rep X.K Z F' H' O ∧ Ext F1 F' ∧ Apart Z F' O D ∧ H' D = some (.dK vacc) ∧ IsK X.K F' acc vacc ∧ acc.length ≤ i + 1 ∧ (acc.map (·.1)).Nodup ∧ W (i + 1) acc O, fun H' h => ⟨m - 1, by omega, by omega, h⟩, fun x H3 y => ?_⟩
    obtain ⟨F3, r3, e3, i3⟩ := ok.yld _ i F2 H2 O2 x H3 its[i] e2 rh k2 (List.getElem?_eq_getElem hi) y
    refine Tgt.run hok (env1.ext (e2.trans e3)) r3 i3 (step i its[i] acc O2 (List.getElem?_eq_getElem hi) w2) fun σ4 ρ4 hw re4 q4 => ⟨hw, (F3, upd Z D (.dK vacc)), _, ρ4, O2, F3, _, ⟨rfl, Ext.refl, re4, r3⟩, q4, fun b O5 F5 H5 r5 e5 q5 => ?_⟩
    have hsz : acc.length < sizeLine := Nat.lt_of_le_of_lt l2 (Nat.lt_of_lt_of_le hi ok.sz)
    cases b with
    | true =>
      refine ⟨(F5, upd Z D (.dK vacc)), _, ρ4, O5, F5, _, ⟨rfl, Ext.refl, re4.ext e5, r5⟩, q5, fun dy O6 F6 H6 v r6 e6 i6 q6 => ?_⟩
      refine ⟨(F6, upd Z D (.dK vacc)), _, ρ4, O6, F6, _, ⟨rfl, Ext.refl, re4.ext (e5.trans e6), r6⟩, q6, fun dz O7 F7 H7 u r7 e7 i7 ⟨k, ek, q7⟩ => ?_⟩
      obtain ⟨r8, a8, h8⟩ := r7.unhide a1.z
      have ee : Ext F2 F7 := e3.trans (e5.trans (e6.trans e7))
      exact ⟨vacc, kk k, keyD_isF ek (i6.ext e7), h8, by rw [← i2.len]; exact hsz, kput acc k dz, putK vacc (kk k) u, O7, F7, r8.beside a8, e2.trans ee, a8, upd_same, (i2.ext ee).put n2 k (keyD_okF ek i6) i7, Nat.le_trans kput_len (Nat.add_le_add_right l2 1), kput_nd k dz n2, q7⟩
    | false =>
      obtain ⟨r7, a7, h7⟩ := r5.unhide a1.z
      have ee : Ext F2 F5 := e3.trans e5
      exact ⟨acc, vacc, O5, F5, r7, e2.trans ee, a7, h7, i2.ext ee, Nat.le_succ_of_le l2, n2, q5⟩
  · have e : i = its.length := by omega
    subst e
    refine .inl ⟨ok.stop _ F2 H2 O2 e2 rh k2, (cv.ext (e1.trans e2)) _ _ _ _ _ (r2.adoptO (d := .dic acc) a2 h2 (Own.ofDic i2 ?_)) Ext.refl Is.mkAtm (fi acc O2 w2 D a2.o)⟩
    rw [← i2.len]
    exact Nat.le_trans l2 ok.sz
end
section
variable {X : Cx} {F0 : Bs} {kx vx tg iter : Expr} {ifs : List Expr} {scope : Scope} {own : List (Str × Nat)} {pos : Pos} {ti : DTI} {tgt : Tgt} {tt : DTT} {tk tv : DTE}
theorem de_dc (hc : X.calm = true) (hN : X.N.Nodup) (hi : DI X F0 tg iter ti) (ok : BlkOk X.N X.env.scope scope own) (hok : tgt.ok (own.map (·.2)))
    (hg : ∀ (s : Shared) (H : Hp) (C : Addr) (cl : List (Str × Addr)) (fp : List Addr), PG (X.blk s H scope (compEnvC scope cl C X.env) fp) tg (tgt.g X.K)) (ht : ∀ (s : Shared) (H : Hp) (C : Addr) (cl : List (Str × Addr)) (fp : List Addr) (B : Bs), PTs (X.blk s H scope (compEnvC scope cl C X.env) fp) ifs (liftT X.K B tt))
    (hk : ∀ (s : Shared) (H : Hp) (C : Addr) (cl : List (Str × Addr)) (fp : List Addr) (B : Bs), DE (X.blk s H scope (compEnvC scope cl C X.env) fp) B kx tk)
    (he : ∀ (s : Shared) (H : Hp) (C : Addr) (cl : List (Str × Addr)) (fp : List Addr) (B : Bs), DE (X.blk s H scope (compEnvC scope cl C X.env) fp) B vx tv) (hs : ∀ x, foldedSetIterable iter X.env x = pure x := by intro _; rfl) :
    DE X F0 (.DictComp kx vx [⟨tg, iter, ifs, 0⟩] scope pos) (dDc ti tgt (own.map (·.2)) tt tk tv) :=
  PE.imp (pe_dc hc hN hi ok hg (fun s H C cl fp => pts_ex (ht s H C cl fp)) (fun s H C cl fp => pe_ex (hk s H C cl fp)) (fun s H C cl fp => pe_ex (he s H C cl fp)) hs) fun _ _ _ h => lift_dc hok h
end
/-- {k a: v a for a in l}, without a change -/
theorem dc_pure {α : Type} {ti : DTI} {tg : Tgt} {vs : List Nat} {tk tv : DTE} {ρ : Env'} {O : OS} {Q : DQ} (l : List α) (e : α → D) (kf : α → D) (kd : α → KD) (f : α → D) (hkd : ∀ a ∈ l, keyD (kf a) = some (kd a))
    (hti : ∀ R : DRI, (∀ keep : OS → Prop, keep O → R (l.map e) keep O) → ti ρ O R)
    (hd : ∀ a ∈ l, tg.to (e a) (blank ρ vs) fun ρ2 => (∀ k : DQ, k (kf a) O → tk ρ2 O k) ∧ (∀ k : DQ, k (f a) O → tv ρ2 O k))
    (hq : ∀ p, O p = none → Q (.atm (.ref p)) (oput O p (.dic (mergeD [] (l.map fun a => (kd a, f a)))))) : dDc ti tg vs tYesD tk tv ρ O Q := by
  refine hti _ fun keep hk => ⟨fun i acc O' => O' = O ∧ acc = mergeD [] ((l.take i).map fun a => (kd a, f a)), ⟨rfl, rfl⟩, fun i acc O' _ h => by rw [h.1]; exact hk, fun i d acc O' ei h => ?_, fun acc O' h => ?_⟩
  · obtain ⟨rfl, rfl⟩ := h
    rw [List.getElem?_map] at ei
    cases ea : l[i]? with
    | none => rw [ea] at ei; cases ei
    | some a =>
      rw [ea] at ei
      cases ei
      have hm := List.mem_of_getElem? ea
      refine Tgt.to_mono (fun ρ2 z => ?_) (hd a hm)
      refine w_ift (B := False) ?_
      refine z.1 _ (z.2 _ ⟨kd a, hkd a hm, rfl, ?_⟩)
      rw [List.take_add_one, ea, List.map_append]
      unfold mergeD
      rw [List.foldl_append]
      rfl
  · obtain ⟨rfl, rfl⟩ := h
    rw [List.length_map, List.take_length]
    exact hq

/-! ### def f(a, *v) -/
def starSp (n : Nat) (sp : DSp) : DSp := fun ds O Q E => ∃ a rest, ds = a ++ rest ∧ a.length = n ∧ Sz rest.length ∧ sp (a ++ [.tup rest]) O Q E
theorem Iss.split {K : PySem.W.Frag} {F : Hp} : ∀ {a b : List D} {vs : List V}, Iss K F (a ++ b) vs → ∃ us ws, vs = us ++ ws ∧ Iss K F a us ∧ Iss K F b ws
  | [], b, vs, h => ⟨[], vs, rfl, Iss.nil, h⟩
  | d :: a, b, vs, h => by
    rw [List.cons_append] at h
    simp only [Iss] at h
    obtain ⟨v, r, rfl, h1, h2⟩ := h
    obtain ⟨us, ws, rfl, h3, h4⟩ := Iss.split h2
    exact ⟨v :: us, ws, rfl, Iss.cons h1 h3, h4⟩
section
variable {P : Program} {w : World} {K : PySem.W.Frag} {mg : Str → Option Value} {base : Heap} {x qual : Str} {params : Arguments} {body : List Stmt} {scope : Scope} {f : Addr} {fd : FuncData}
theorem okStar {N ps : List Str} {pv : Str} {k : Nat} {sp : DSp} {t : DWX → DTS} (F : FunD K x qual params body scope [] [] f fd) (S : FnScope N (ps ++ [pv]) scope) (gm : mg x = some (.ref f))
    (hb : ∀ (kV doc pm : Value) (an : Option Addr) (cdv ct : Value) (us rest : List Value), us.length = ps.length → bindArgs (PySem.W.fnOf x qual params body scope .none kV doc pm an cdv ct) ⟨us ++ rest, []⟩ = (newTuple rest >>= fun t => pure (ps.zip us ++ [(pv, t)])))
    (hd : ∀ (cdv : Value) (A : Around) (outer : List Env) (s : Shared) (H : Hp) (E : XK) (F0 : Bs) (W : DWX), Takes (cxOf (CX P w) P w K mg base N qual scope f cdv A outer s H E) (liftW K F0 W) → Room k (A.deeper (envOfC qual scope s.heap.objs.size f cdv)) →
      DSs (cxOf (CX P w) P w K mg base N qual scope f cdv A outer s H E) F0 body (t W))
    (hv : ∀ ds O Q E, sp ds O Q E → t (fun x _ O => dropE E x O) ⟨fun _ O => dropQ Q .non O, dropQ Q, fun _ _ => False, fun _ _ => False⟩ (startD N ds) O) : DFn P w K mg base x (k + 1) (starSp ps.length sp) := by
  obtain ⟨oc, od, dV, kV, doc, pm, an, cdv, ct, osl, rfl, lk, hcd, hD, _⟩ := F.ex
  rcases hD with ⟨_, rfl⟩ | ⟨z, _⟩
  case inr => exact absurd rfl z
  refine ⟨f, gm, F.kp, ?_⟩
  have main := StX.fn_star (P := P) (w := w) (mg := mg) (base := base) (CX := CX P w) (k := k) (sp := liftF K (sp2 sp)) (ps := ps) (pv := pv) lk hcd S StX.cxUp (hb kV doc pm an cdv ct) (fun A outer s H vs Q E hr h => by
    obtain ⟨Z, ds, O, F0, Qd, Ed, r, is, h, c, cx⟩ := h
    obtain ⟨Q0, E0, h, e1, e2⟩ := h
    subst e1 e2
    have tk : Takes (cxOf (CX P w) P w K mg base N qual scope f cdv A outer s H E) (fun c d _ H' => E c d H') := takes_of (E₁ := fun e' s'' => L2.CX P w outer H s E e' s'') rfl rfl rfl rfl
    refine ⟨_, hd cdv A outer s H E (F0, Z) (fun x _ O => dropE E0 x O) (tk.imp fun c d σ H' q => ?_) hr, lift_body r is (hv _ _ _ _ h) c⟩
    obtain ⟨Z', ρ, O', F', x, a, ix, hx⟩ := q
    have e : Z' = Z := a.zz
    subst e
    exact cx _ _ _ _ _ _ a.rep a.ext ix hx)
  refine main.imp fun vs H Q E h => ?_
  obtain ⟨Z, ds, O, F', Qd, Ed, r, is, ⟨a, rest, rfl, hl, hz, h⟩, c, cx⟩ := h
  obtain ⟨us, ws, rfl, i1, i2⟩ := is.split
  refine ⟨us, ws, rfl, by rw [← i1.len]; exact hl, by rw [← i2.len]; exact hz, fun p hp => ?_⟩
  obtain ⟨r2, e2⟩ := r.newF (o := .tup ws) hp
  have it : Is K (upd F' p (.tup ws)) (.tup rest) (.ref p) := Is.mkTup upd_same (i2.ext e2) (by rw [← i2.len]; exact hz)
  exact liftF_drop _ _ _ _ ⟨Z, a ++ [.tup rest], O, _, Qd, Ed, r2, (i1.ext e2).app (Iss.cons it Iss.nil), h, c.ext e2, fun x O' F'' H' c' d r' e' i' q => cx x O' F'' H' c' d r' (e2.trans e') i' q⟩
end
end DS

namespace DS
open PySem PySem.Spec PyProof.Rows L2

/-! ### the reader -/
def wrd (s : List Nat) : List Nat := s.takeWhile ltr
def rst (s : List Nat) : List Nat := s.dropWhile ltr
theorem wrd_rst (s : List Nat) : wrd s ++ rst s = s := List.takeWhile_append_dropWhile
def clz (w : List Nat) : Option (List Trm × List Nat) → Option (Trm × List Nat)
  | some (ts, r) => if r.head? = some 41 ∧ ts.length ≤ 3 then some (.mk w ts, r.tail) else none
  | none => none
def con (t : Trm) : Option (List Trm × List Nat) → Option (List Trm × List Nat)
  | some (ts, r) => some (t :: ts, r)
  | none => none
mutual
def prs : Nat → List Nat → Option (Trm × List Nat)
  | 0, _ => none
  | f + 1, s => if isNm (wrd s) = true then (if (rst s).head? = some 40 then clz (wrd s) (prl f (rst s).tail) else some (.mk (wrd s) [], rst s)) else none
def prl : Nat → List Nat → Option (List Trm × List Nat)
  | 0, _ => none
  | f + 1, s => (prs f s).bind fun x => if x.2.head? = some 44 then con x.1 (prl f x.2.tail) else some ([x.1], x.2)
end
theorem clz_some {w : List Nat} {x : Option (List Trm × List Nat)} {t : Trm} {r : List Nat} (h : clz w x = some (t, r)) : ∃ ts, x = some (ts, 41 :: r) ∧ ts.length ≤ 3 ∧ t = .mk w ts := by
  cases x with
  | none => cases h
  | some y =>
    obtain ⟨ts, r'⟩ := y
    have h : (if r'.head? = some 41 ∧ ts.length ≤ 3 then some (Trm.mk w ts, r'.tail) else none) = some (t, r) := h
    split at h
    · rename_i c
      cases h
      cases r' with
      | nil => cases c.1
      | cons a r' =>
        have := Option.some.inj c.1
        subst this
        exact ⟨ts, rfl, c.2, rfl⟩
    · cases h
theorem con_some {t : Trm} {x : Option (List Trm × List Nat)} {us : List Trm} {r : List Nat} (h : con t x = some (us, r)) : ∃ ts, x = some (ts, r) ∧ us = t :: ts := by
  cases x with
  | none => cases h
  | some y => obtain ⟨ts, r'⟩ := y; cases h; exact ⟨ts, rfl, rfl⟩
theorem head_cons {r : List Nat} {c : Nat} (h : r.head? = some c) : r = c :: r.tail := by
  cases r with
  | nil => cases h
  | cons a r => cases h; rfl
theorem joinD_cons (s x : List Nat) {r : List (List Nat)} (h : r ≠ []) : joinD s (x :: r) = x ++ (s ++ joinD s r) := by
  cases r with
  | nil => exact absurd rfl h
  | cons y r => rfl
theorem prs_txt : ∀ (f : Nat), (∀ s t r, prs f s = some (t, r) → s = txt t ++ r ∧ t.ok = true) ∧ (∀ s ts r, prl f s = some (ts, r) → s = joinD [44] (ts.map txt) ++ r ∧ ts ≠ [] ∧ Trm.oks ts = true)
  | 0 => ⟨fun _ _ _ h => by simp [prs] at h, fun _ _ _ h => by simp [prl] at h⟩
  | f + 1 => by
    have ih := prs_txt f
    have ih1 := ih.1
    have ih2 := ih.2
    refine ⟨fun s t r h => ?_, fun s ts r h => ?_⟩
    · rw [prs] at h
      split at h
      · rename_i hn
        have e0 := wrd_rst s
        split at h
        · rename_i hh
          obtain ⟨ts, el, h3, rfl⟩ := clz_some h
          obtain ⟨q1, q2, q3⟩ := ih2 _ _ _ el
          refine ⟨?_, by rw [Trm.ok, hn, q3, decide_eq_true h3]; rfl⟩
          rw [txt_cons q2]
          have e2 : wrd s ++ (40 :: (rst s).tail) = s := by rw [← head_cons hh]; exact e0
          rw [q1] at e2
          rw [← e2]
          have e3 : wrd (wrd s ++ 40 :: (joinD [44] (ts.map txt) ++ 41 :: r)) = wrd s := by rw [e2]
          rw [e3]
          simp
        · cases h
          refine ⟨?_, by rw [Trm.ok, hn]; rfl⟩
          rw [txt]
          exact e0.symm
      · cases h
    · rw [prl] at h
      cases ep : prs f s with
      | none => rw [ep] at h; cases h
      | some x =>
        obtain ⟨t, r1⟩ := x
        rw [ep] at h
        obtain ⟨q1, q2⟩ := ih1 _ _ _ ep
        have h' : (if r1.head? = some 44 then con t (prl f r1.tail) else some ([t], r1)) = some (ts, r) := h
        split at h'
        · rename_i hh
          obtain ⟨us, el, rfl⟩ := con_some h'
          obtain ⟨q3, q4, q5⟩ := ih2 _ _ _ el
          refine ⟨?_, by simp, by rw [Trm.oks, q2, q5]; rfl⟩
          rw [List.map_cons, joinD_cons _ _ (by simpa using q4), q1, head_cons hh, q3]
          simp
        · cases h'
          refine ⟨by rw [q1]; rfl, by simp, by rw [Trm.oks, q2]; rfl⟩
theorem takeWhile_app {p : Nat → Bool} : ∀ {a b : List Nat}, (∀ x ∈ a, p x = true) → (a ++ b).takeWhile p = a ++ b.takeWhile p
  | [], b, _ => rfl
  | x :: a, b, h => by
    rw [List.cons_append, List.takeWhile_cons, h x List.mem_cons_self, if_pos rfl, takeWhile_app fun y hy => h y (List.mem_cons_of_mem _ hy)]
    rfl
theorem dropWhile_app {p : Nat → Bool} : ∀ {a b : List Nat}, (∀ x ∈ a, p x = true) → (a ++ b).dropWhile p = b.dropWhile p
  | [], b, _ => rfl
  | x :: a, b, h => by
    rw [List.cons_append, List.dropWhile_cons, h x List.mem_cons_self, if_pos rfl, dropWhile_app fun y hy => h y (List.mem_cons_of_mem _ hy)]
theorem isNm_all {n : List Nat} (h : isNm n = true) : (∀ x ∈ n, ltr x = true) ∧ n ≠ [] ∧ n.length ≤ 8 := by
  unfold isNm at h
  simp only [Bool.and_eq_true, decide_eq_true_eq, List.all_eq_true] at h
  exact ⟨h.2, fun z => by rw [z] at h; exact absurd h.1.1 (by decide), h.1.2⟩
/-- what may follow a term -/
def stp (r : List Nat) : Prop := r = [] ∨ ∃ c r', r = c :: r' ∧ (c = 41 ∨ c = 44)
theorem stp_w {n r : List Nat} (h : ∀ x ∈ n, ltr x = true) (s : stp r ∨ ∃ r', r = 40 :: r') : wrd (n ++ r) = n ∧ rst (n ++ r) = r := by
  unfold wrd rst
  rw [takeWhile_app h, dropWhile_app h]
  rcases s with (e | ⟨c, r', e, hc⟩) | ⟨r', e⟩
  · subst e; simp
  · subst e
    rcases hc with hc | hc <;> subst hc <;> simp [List.takeWhile_cons, List.dropWhile_cons, ltr]
  · subst e; simp [List.takeWhile_cons, List.dropWhile_cons, ltr]
theorem prs_full : ∀ (f : Nat), (∀ t r, t.ok = true → stp r → 2 * (txt t).length ≤ f → prs f (txt t ++ r) = some (t, r)) ∧
    (∀ ts r, Trm.oks ts = true → ts ≠ [] → 2 * (joinD [44] (ts.map txt)).length + 1 ≤ f → prl f (joinD [44] (ts.map txt) ++ 41 :: r) = some (ts, 41 :: r))
  | 0 => by
    refine ⟨fun t r h _ hl => ?_, fun ts r _ _ hl => by omega⟩
    obtain ⟨n, ps⟩ := t
    rw [Trm.ok, Bool.and_eq_true, Bool.and_eq_true] at h
    have hn := (isNm_all h.1.1).2.1
    have : 0 < n.length := List.length_pos_iff.mpr hn
    rw [txt] at hl
    split at hl
    · omega
    · simp only [List.length_append] at hl; omega
  | f + 1 => by
    have ih := prs_full f
    have ih1 := ih.1
    have ih2 := ih.2
    refine ⟨fun t r h hs hl => ?_, fun ts r h hne hl => ?_⟩
    · obtain ⟨n, ps⟩ := t
      rw [Trm.ok, Bool.and_eq_true, Bool.and_eq_true, decide_eq_true_eq] at h
      obtain ⟨⟨h1, h2⟩, h3⟩ := h
      obtain ⟨ha, hn, _⟩ := isNm_all h1
      by_cases hp : ps = []
      · subst hp
        obtain ⟨e1, e2⟩ := stp_w ha (.inl hs)
        have et : txt (.mk n []) = n := by rw [txt]; rfl
        have hh : ¬ r.head? = some 40 := fun z => by
          rcases hs with e | ⟨c, r2, e, hc⟩
          · subst e; cases z
          · subst e
            have := Option.some.inj z
            subst this
            rcases hc with hc | hc <;> cases hc
        rw [et, prs, e1, e2, if_pos h1, if_neg hh]
      · have et : txt (.mk n ps) ++ r = n ++ (40 :: (joinD [44] (ps.map txt) ++ 41 :: r)) := by rw [txt_cons hp]; simp
        obtain ⟨e1, e2⟩ := stp_w (r := 40 :: (joinD [44] (ps.map txt) ++ 41 :: r)) ha (.inr ⟨_, rfl⟩)
        have hl2 : 2 * (joinD [44] (ps.map txt)).length + 1 ≤ f := by
          rw [txt_cons hp] at hl
          simp only [List.length_append, List.length_cons, List.length_nil] at hl
          omega
        rw [et, prs, e1, e2, if_pos h1, if_pos (show (40 :: (joinD [44] (ps.map txt) ++ 41 :: r)).head? = some 40 from rfl)]
        show clz n (prl f (joinD [44] (ps.map txt) ++ 41 :: r)) = _
        rw [ih2 ps r h3 hp hl2]
        show (if _ ∧ _ then _ else _) = _
        rw [if_pos ⟨rfl, h2⟩]
        rfl
    · cases ts with
      | nil => exact absurd rfl hne
      | cons t ts =>
        rw [Trm.oks, Bool.and_eq_true] at h
        cases ts with
        | nil =>
          have e : joinD [44] ([t].map txt) = txt t := rfl
          rw [e] at hl ⊢
          rw [prl, ih1 t (41 :: r) h.1 (.inr ⟨41, r, rfl, .inl rfl⟩) (by omega)]
          rfl
        | cons u us =>
          have e : joinD [44] ((t :: u :: us).map txt) ++ 41 :: r = txt t ++ (44 :: (joinD [44] ((u :: us).map txt) ++ 41 :: r)) := by
            rw [List.map_cons, joinD_cons _ _ (by simp)]
            simp
          have hl3 : (joinD [44] ((t :: u :: us).map txt)).length = (txt t).length + 1 + (joinD [44] ((u :: us).map txt)).length := by
            rw [List.map_cons, joinD_cons _ _ (by simp)]
            simp only [List.length_append, List.length_cons, List.length_nil]
            omega
          rw [hl3] at hl
          rw [e, prl, ih1 t _ h.1 (.inr ⟨44, _, rfl, .inr rfl⟩) (by omega)]
          show con t (prl f (joinD [44] ((u :: us).map txt) ++ 41 :: r)) = _
          rw [ih2 (u :: us) r h.2 (by simp) (by omega)]
          rfl
end DS

namespace DS
open PySem PySem.Spec PyProof.Rows L2
/-- what a text says -/
def reads (cs : List Nat) : Option Trm := match prs (2 * cs.length + 2) cs with
  | some (t, r) => if r = [] ∧ (told ((subs t).map rowT) []).isSome = true then some t else none
  | none => none
theorem tdeps_mem : ∀ {ps : List Trm}, ps ≠ [] → ∃ t ∈ ps, tdeps ps = tdep t
  | [], h => absurd rfl h
  | u :: us, _ => by
    by_cases hus : us = []
    · subst hus; exact ⟨u, List.mem_cons_self, by simp [tdeps]⟩
    · obtain ⟨t, ht, e⟩ := tdeps_mem hus
      by_cases c : tdep u ≤ tdeps us
      · exact ⟨t, List.mem_cons_of_mem _ ht, by rw [tdeps, ← e]; omega⟩
      · exact ⟨u, List.mem_cons_self, by rw [tdeps]; omega⟩
mutual
theorem txt_nodes : ∀ t : Trm, t.ok = true → (subs t).length ≤ (txt t).length ∧ 3 * tdep t ≤ (txt t).length + 2
  | .mk n ps, h => by
    rw [Trm.ok, Bool.and_eq_true, Bool.and_eq_true] at h
    obtain ⟨⟨h1, _⟩, h3⟩ := h
    have hn : 1 ≤ n.length := List.length_pos_iff.mpr (isNm_all h1).2.1
    by_cases hp : ps = []
    · subst hp
      have et : txt (.mk n []) = n := by rw [txt]; rfl
      have es : (subs (.mk n [])).length = 1 := by simp [subs, subss]
      have ed : tdep (.mk n []) = 1 := by simp [tdep, tdeps]
      rw [et, es, ed]; omega
    · obtain ⟨g1, g2⟩ := txts_nodes ps h3
      have g1' := g1 hp
      have el := congrArg List.length (txt_cons (n := n) hp)
      simp only [List.length_append, List.length_cons, List.length_nil] at el
      obtain ⟨t, ht, et⟩ := tdeps_mem hp
      have hp1 := txt_part (n := n) ht
      have hp2 := g2 t ht
      rw [subs, List.length_append, List.length_cons, List.length_nil, tdep, et]
      omega
theorem txts_nodes : ∀ qs : List Trm, Trm.oks qs = true → (qs ≠ [] → (subss qs).length ≤ (joinD [44] (qs.map txt)).length) ∧ ∀ t ∈ qs, 3 * tdep t ≤ (txt t).length + 2
  | [], _ => ⟨fun h => absurd rfl h, fun _ h => by cases h⟩
  | u :: us, h => by
    rw [Trm.oks, Bool.and_eq_true] at h
    have hu := txt_nodes u h.1
    have ih := txts_nodes us h.2
    refine ⟨fun _ => ?_, fun t ht => ?_⟩
    · by_cases hus : us = []
      · subst hus; rw [subss_one]; exact hu.1
      · have i1 := ih.1 hus
        rw [subss, List.map_cons, joinD_cons _ _ (by simpa using hus)]
        simp only [List.length_append, List.length_cons, List.length_nil]
        omega
    · rcases List.mem_cons.mp ht with e | ht
      · subst e; exact hu.2
      · exact ih.2 t ht
end
theorem reads_some {cs : List Nat} {t : Trm} (h : reads cs = some t) : cs = txt t ∧ t.ok = true ∧ (told ((subs t).map rowT) []).isSome = true := by
  unfold reads at h
  split at h
  · rename_i t' r e
    split at h
    · rename_i c
      cases h
      obtain ⟨h1, h2⟩ := (prs_txt _).1 _ _ _ e
      rw [c.1, List.append_nil] at h1
      exact ⟨h1, h2, c.2⟩
    · cases h
  · cases h
theorem reads_txt {t : Trm} (h : t.ok = true) (h2 : (told ((subs t).map rowT) []).isSome = true) : reads (txt t) = some t := by
  have e := (prs_full (2 * (txt t).length + 2)).1 t [] h (.inl rfl) (by omega)
  rw [List.append_nil] at e
  unfold reads
  rw [e]
  show (if _ ∧ _ then _ else _) = _
  rw [if_pos ⟨rfl, h2⟩]
/-! ### how many are different -/
theorem nodup_len {α : Type} [DecidableEq α] : ∀ {l m : List α}, l.Nodup → (∀ x ∈ l, x ∈ m) → l.length ≤ m.length
  | [], m, _, _ => Nat.zero_le _
  | x :: l, m, h, s => by
    obtain ⟨h1, h2⟩ := List.nodup_cons.mp h
    obtain ⟨a, b, rfl⟩ := List.append_of_mem (s x List.mem_cons_self)
    have := nodup_len (l := l) (m := a ++ b) h2 fun y hy => by
      have hy2 := s y (List.mem_cons_of_mem _ hy)
      have hne : y ≠ x := fun e => h1 (e ▸ hy)
      simp only [List.mem_append, List.mem_cons] at hy2 ⊢
      rcases hy2 with h | h | h
      · exact .inl h
      · exact absurd h hne
      · exact .inr h
    simp only [List.length_append, List.length_cons] at this ⊢
    omega
/-- as many names as rows, exactly if a row's name tells it -/
theorem card_fun {α β : Type} [DecidableEq α] [DecidableEq β] {rows : List α} {g : α → β} {D1 : List α} {D2 : List β} (n1 : D1.Nodup) (m1 : ∀ x, x ∈ D1 ↔ x ∈ rows) (n2 : D2.Nodup) (m2 : ∀ y, y ∈ D2 ↔ y ∈ rows.map g) :
    D1.length = D2.length ↔ ∀ a ∈ rows, ∀ b ∈ rows, g a = g b → a = b := by
  constructor
  · intro hl a ha b hb hg
    refine Classical.byContradiction fun hne => ?_
    obtain ⟨u, v, e⟩ := List.append_of_mem ((m1 a).mpr ha)
    have hb2 : b ∈ u ++ v := by
      have := (m1 b).mpr hb
      rw [e] at this
      simp only [List.mem_append, List.mem_cons] at this ⊢
      rcases this with h | h | h
      · exact .inl h
      · exact absurd h.symm hne
      · exact .inr h
    have h3 : D2.length ≤ ((u ++ v).map g).length := nodup_len n2 fun y hy => by
      obtain ⟨x, hx, rfl⟩ := List.mem_map.mp ((m2 y).mp hy)
      have hx1 := (m1 x).mpr hx
      rw [e] at hx1
      simp only [List.mem_append, List.mem_cons] at hx1
      rcases hx1 with h | h | h
      · exact List.mem_map.mpr ⟨x, List.mem_append.mpr (.inl h), rfl⟩
      · rw [h, hg]; exact List.mem_map.mpr ⟨b, hb2, rfl⟩
      · exact List.mem_map.mpr ⟨x, List.mem_append.mpr (.inr h), rfl⟩
    rw [e] at hl
    simp only [List.length_append, List.length_map, List.length_cons] at hl h3
    omega
  · intro hi
    have nd : (D1.map g).Nodup := by
      rw [List.Nodup, List.pairwise_map]
      refine List.Pairwise.imp_of_mem (fun {a b} ha hb hne e => hne (hi a ((m1 a).mp ha) b ((m1 b).mp hb) e)) n1
    have h1 : (D1.map g).length ≤ D2.length := nodup_len nd fun y hy => by
      obtain ⟨x, hx, rfl⟩ := List.mem_map.mp hy
      exact (m2 _).mpr (List.mem_map.mpr ⟨x, (m1 x).mp hx, rfl⟩)
    have h2 : D2.length ≤ (D1.map g).length := nodup_len n2 fun y hy => by
      obtain ⟨x, hx, rfl⟩ := List.mem_map.mp ((m2 y).mp hy)
      exact List.mem_map.mpr ⟨x, (m1 x).mpr hx, rfl⟩
    rw [List.length_map] at h1 h2
    omega
/-- told: a dict of the rows, if one name has one number -/
def like (l : List (List Nat × Int)) : Prop := ∀ a ∈ l, ∀ b ∈ l, a.1 = b.1 → a = b
theorem kget_app {κ : Type} [DecidableEq κ] {k x : κ} {d : D} : ∀ {ds : List (κ × D)}, kget ds k = none → kget (ds ++ [(k, d)]) x = if k = x then some d else kget ds x
  | [], _ => rfl
  | (k', d') :: r, h => by
    unfold kget at h
    by_cases c : k' = k
    · rw [if_pos c] at h; cases h
    · rw [if_neg c] at h
      rw [List.cons_append, kget, kget_app h, kget]
      by_cases c1 : k' = x
      · rw [if_pos c1, if_pos c1, if_neg (fun z => c (c1.trans z.symm))]
      · rw [if_neg c1, if_neg c1]
theorem told_like : ∀ (l : List (List Nat × Int)) (acc : List (KD × D)), (∀ k d, kget acc k = some d → ∃ n c, k = .s n ∧ d = .int c) →
    ((told l acc).isSome = true ↔ (∀ a ∈ l, ∀ b ∈ l, a.1 = b.1 → a.2 = b.2) ∧ ∀ a ∈ l, ∀ c, kget acc (.s a.1) = some (.int c) → a.2 = c)
  | [], acc, _ => by simp [told]
  | (n, c) :: l, acc, ha => by
    rw [told]
    cases e : kget acc (.s n) with
    | some d =>
      obtain ⟨n', c', hk, rfl⟩ := ha _ _ e
      cases hk
      show ((if deq (.int c') (.int c) = true then told l acc else none).isSome = true) ↔ _
      by_cases h : c' = c
      · subst h
        rw [if_pos (by simp [deq]), told_like l acc ha]
        constructor
        · rintro ⟨h1, h2⟩
          refine ⟨fun a m b m' hab => ?_, fun a m x hx => ?_⟩
          · rcases List.mem_cons.mp m with q | m <;> rcases List.mem_cons.mp m' with q' | m'
            · rw [q, q']
            · subst q; exact (h2 b m' c' (by rw [← hab]; exact e)).symm
            · subst q'; exact h2 a m c' (by rw [hab]; exact e)
            · exact h1 a m b m' hab
          · rcases List.mem_cons.mp m with q | m
            · subst q; rw [e] at hx; cases hx; rfl
            · exact h2 a m x hx
        · rintro ⟨h1, h2⟩
          exact ⟨fun a m b m' => h1 a (List.mem_cons_of_mem _ m) b (List.mem_cons_of_mem _ m'), fun a m => h2 a (List.mem_cons_of_mem _ m)⟩
      · rw [if_neg (by simp [deq, h])]
        constructor
        · intro z; cases z
        · rintro ⟨_, h2⟩
          exact absurd (h2 (n, c) List.mem_cons_self c' e) (fun z => h z.symm)
    | none =>
      show ((told l (kput acc (.s n) (.int c))).isSome = true) ↔ _
      rw [kput_new e]
      have hg : ∀ x, kget (acc ++ [(KD.s n, D.int c)]) x = if KD.s n = x then some (D.int c) else kget acc x := fun x => kget_app e
      rw [told_like l _ (fun k d h => by
        rw [hg] at h
        split at h
        · rename_i z; cases h; exact ⟨n, c, z.symm, rfl⟩
        · exact ha _ _ h)]
      constructor
      · rintro ⟨h1, h2⟩
        refine ⟨fun a m b m' hab => ?_, fun a m x hx => ?_⟩
        · rcases List.mem_cons.mp m with q | m <;> rcases List.mem_cons.mp m' with q' | m'
          · rw [q, q']
          · subst q; exact (h2 b m' c (by rw [hg, if_pos (by rw [← hab])])).symm
          · subst q'; exact h2 a m c (by rw [hg, if_pos (by rw [hab])])
          · exact h1 a m b m' hab
        · rcases List.mem_cons.mp m with q | m
          · subst q; rw [e] at hx; cases hx
          · refine h2 a m x ?_
            rw [hg]
            split
            · rename_i z; rw [← z, e] at hx; cases hx
            · exact hx
      · rintro ⟨h1, h2⟩
        refine ⟨fun a m b m' => h1 a (List.mem_cons_of_mem _ m) b (List.mem_cons_of_mem _ m'), fun a m x hx => ?_⟩
        rw [hg] at hx
        split at hx
        · rename_i z
          cases hx
          cases z
          exact h1 a (List.mem_cons_of_mem _ m) (a.1, c) List.mem_cons_self rfl
        · exact h2 a (List.mem_cons_of_mem _ m) x hx
end DS

namespace DS
open PySem PySem.Spec PyProof.Rows L2
/-! ### the dice of a law -/
def dc (a b c : Int) : D := .lst [.int a, .int b, .int c]
def DcOk (n : Nat) (a b c : Int) : Prop := 0 ≤ a ∧ a < 2 ^ 2200 ∧ 0 ≤ b ∧ b < 2 ^ 61 ∧ 0 ≤ c ∧ c ≤ n
theorem cmul {i j : Int} (a b : Nat) (hi : i.natAbs < 2 ^ a) (hj : j.natAbs < 2 ^ b) (h : a + b < 1000000) : CMulW i j := by
  have go : ∀ (x k : Nat), x < 2 ^ k → x.log2 ≤ k := fun x k hx => by
    by_cases e : x = 0
    · subst e; simp
    · have := (Nat.log2_lt e).mpr hx; omega
  have h1 := go _ _ hi
  have h2 := go _ _ hj
  unfold CMulW
  omega
section
variable {ρ : Env'} {O : OS} {Q : DQ} {tv to ti : DTE} {D' : DEnds} {p : Addr} {xs : List D} {z : D} {i : Int} {j : Nat} {k : OS → Prop}
theorem w_put (q : tv ρ O fun z O1 => to ρ O1 fun x O2 => ti ρ O2 fun y O3 => Vw O3 y fun y' => setD O3 x y' z fun O4 => D'.nx ρ O4) : sPut tv to ti D' ρ O := q
theorem w_setL (h : O p = some (.lst xs)) (e : ixN xs.length i = some j) (q : k (oput O p (.lst (xs.set j z)))) : setD O (.atm (.ref p)) (.int i) z k := by
  unfold setD
  simp only [h, e]
  exact q
end
theorem ten59 : ((10 : Int) ^ (59 : Int).toNat) ^ (11 : Int).toNat ≤ 2 ^ 2200 ∧ 0 < ((10 : Int) ^ (59 : Int).toNat) ^ (11 : Int).toNat := by decide +kernel
theorem emod_bd {a b : Int} (h : 0 < b) : 0 ≤ a % b ∧ a % b < b := ⟨Int.emod_nonneg _ (by omega), Int.emod_lt_of_pos _ h⟩
theorem w_anyI {t : DTE} {ρ : Env'} {O : OS} {Q : DQ} (h : ∃ v, ∀ k : DQ, k (.int v) O → t ρ O k) (q : ∀ v, Q (.int v) O) : t ρ O Q := h.elim fun v hv => hv Q (q v)
theorem two_bd {x y z : Int} (h1 : 0 ≤ x) (h2 : x < 2 ^ 60) (h3 : 0 ≤ y) (h4 : y < 2 ^ 60) (h5 : 0 ≤ z) (h6 : z < 2 ^ 60) : (x * y + 271828183 * z).natAbs < 2 ^ 200 := by
  obtain ⟨a, rfl⟩ := Int.eq_ofNat_of_zero_le h1
  obtain ⟨b, rfl⟩ := Int.eq_ofNat_of_zero_le h3
  obtain ⟨c, rfl⟩ := Int.eq_ofNat_of_zero_le h5
  have e60 : (2 : Int) ^ 60 = 1152921504606846976 := by decide +kernel
  rw [e60] at h2 h4 h6
  have e : ((a : Int) * b + 271828183 * c) = ((a * b + 271828183 * c : Nat) : Int) := by rw [Int.natCast_add, Int.natCast_mul, Int.natCast_mul]; rfl
  rw [e, Int.natAbs_natCast]
  have h7 : a * b ≤ 1152921504606846976 * 1152921504606846976 := Nat.mul_le_mul (by omega) (by omega)
  have e200 : (2 : Nat) ^ 200 = 1606938044258990275541962092341162602522202993782792835301376 := by decide +kernel
  rw [e200]
  omega
theorem erase_perm {α : Type} : ∀ (l : List α) (i : Nat) (h : i < l.length), (l[i] :: l.eraseIdx i).Perm l
  | x :: l, 0, _ => List.Perm.refl _
  | x :: l, i + 1, h => by
    have h2 : i < l.length := by simpa using h
    show (l[i] :: x :: l.eraseIdx i).Perm (x :: l)
    exact (List.Perm.swap x l[i] _).trans ((erase_perm l i h2).cons x)
theorem perm_map {α β : Type} (f : α → β) {m n : List β} (h : m.Perm n) : ∀ l : List α, l.map f = n → ∃ l' : List α, l'.Perm l ∧ l'.map f = m := by
  induction h with
  | nil => intro l e; exact ⟨l, List.Perm.refl _, e⟩
  | cons x _ ih =>
    intro l e
    cases l with
    | nil => cases e
    | cons a l =>
      rw [List.map_cons] at e
      obtain ⟨e1, e2⟩ := List.cons.inj e
      obtain ⟨l', p, q⟩ := ih l e2
      exact ⟨a :: l', p.cons a, by rw [List.map_cons, q, e1]⟩
  | swap x y r =>
    intro l e
    match l, e with
    | a :: b :: l, e =>
      rw [List.map_cons, List.map_cons] at e
      obtain ⟨e1, e2⟩ := List.cons.inj e
      obtain ⟨e2, e3⟩ := List.cons.inj e2
      exact ⟨b :: a :: l, List.Perm.swap a b l, by rw [List.map_cons, List.map_cons, e1, e2, e3]⟩
  | trans _ _ ih1 ih2 =>
    intro l e
    obtain ⟨l1, p1, q1⟩ := ih2 l e
    obtain ⟨l2, p2, q2⟩ := ih1 l1 q1
    exact ⟨l2, p2.trans p1, q2⟩
/-- a comprehension whose source is known -/
def lcQ (tg : Tgt) (vs : List Nat) (tt : DTT) (te : DTE) (fin : List D → OS → DQ → Prop) (its : List D) (keep : OS → Prop) (ρ : Env') (O1 : OS) (Q : DQ) : Prop := ∃ W : Nat → List D → OS → Prop, W 0 [] O1 ∧ (∀ i acc O, i ≤ its.length → W i acc O → keep O) ∧
  (∀ i d acc O, its[i]? = some d → W i acc O → tg.to d (blank ρ vs) fun ρ2 => tt ρ2 O fun b O2 => if b = true then te ρ2 O2 fun y O3 => W (i + 1) (acc ++ [y]) O3 else W (i + 1) acc O2) ∧ ∀ acc O, W its.length acc O → fin acc O Q
section
variable {α : Type} {ti : DTI} {tg : Tgt} {vs : List Nat} {tt : DTT} {te : DTE} {fin : List D → OS → DQ → Prop} {ρ : Env'} {O : OS} {Q : DQ} {keep : OS → Prop}
theorem w_lc (q : ti ρ O fun its keep O1 => lcQ tg vs tt te fin its keep ρ O1 Q) : dLcW ti tg vs tt te fin ρ O Q := q
theorem lcq_pure (l : List α) (e : α → D) (p : α → Bool) (f : α → D) (hk : keep O)
    (hd : ∀ a ∈ l, tg.to (e a) (blank ρ vs) fun ρ2 => (∀ k : Bool → OS → Prop, k (p a) O → tt ρ2 O k) ∧ (p a = true → ∀ k : DQ, k (f a) O → te ρ2 O k))
    (hq : fin ((l.filter p).map f) O Q) : lcQ tg vs tt te fin (l.map e) keep ρ O Q :=
  lc_pureA (ti := fun _ O R => R (l.map e) keep O) l e p f (fun R h => h keep hk) hd hq
theorem lcq_map (l : List α) (e : α → D) (f : α → D) (hk : keep O)
    (hd : ∀ a ∈ l, tg.to (e a) (blank ρ vs) fun ρ2 => ∀ k : DQ, k (f a) O → te ρ2 O k)
    (hq : fin (l.map f) O Q) : lcQ tg vs tYesD te fin (l.map e) keep ρ O Q :=
  lc_mapA (ti := fun _ O R => R (l.map e) keep O) l e f (fun R h => h keep hk) hd hq
end
/-! ### drawn names -/
def NamesOk (rows : List (List Nat × Int)) : Prop := (∀ r ∈ rows, isNm r.1 = true ∧ 0 ≤ r.2 ∧ r.2 ≤ 3) ∧ (∃ r ∈ rows, r.2 = 0) ∧ (rows.map (·.1)).Nodup ∧ rows.length ≤ 100
def fnms : List (List Nat) := [[102], [103], [103, 103], [122, 122, 122, 122, 122, 122, 122, 122]]
def poolOk (ws : List (List Nat)) : Bool := decide (ws.length = 4) && ws.all isNm && decide ws.Nodup && ws.all fun w => decide (w ∉ fnms)
theorem sortOk_rows (rows : List (List Nat × Int)) : sortOk (rows.map rowD') := by
  refine ⟨?_, ?_, ?_, fun x hx => ?_⟩
  · induction rows with
    | nil => rfl
    | cons r rows ih => rw [List.map_cons, plains, ih]; rfl
  · rw [List.map_map]
    exact PySem.W.AllAlike.of fun a b => rfl
  · rw [List.map_map]
    exact PySem.W.Sortable.tuples fun a => ⟨_, _, rfl⟩
  · obtain ⟨r, _, rfl⟩ := List.mem_map.mp hx
    simp [rowD', dep, deps]
theorem sort_rows (rows : List (List Nat × Int)) : ∃ rows' : List (List Nat × Int), rows'.Perm rows ∧ sortD (rows.map rowD') = rows'.map rowD' := by
  obtain ⟨l, p, q⟩ := perm_map rowD' (List.mergeSort_perm (rows.map rowD') (PySem.W.dataLe false pd)) rows rfl
  exact ⟨l, p, q.symm⟩
end DS

namespace DS
open PySem PySem.Spec PyProof.Rows L2
/-! ### drawn terms -/
-- each subterm is a row: the name, as many parts as told
mutual
def fits (rows : List (List Nat × Int)) : Trm → Bool
  | .mk n ps => decide ((n, (ps.length : Int)) ∈ rows) && fitss rows ps
def fitss (rows : List (List Nat × Int)) : List Trm → Bool
  | [] => true
  | t :: ts => fits rows t && fitss rows ts
end
theorem fitss_all {rows : List (List Nat × Int)} : ∀ {ts : List Trm}, fitss rows ts = true ↔ ∀ t ∈ ts, fits rows t = true
  | [] => by simp [fitss]
  | t :: ts => by
    rw [fitss, Bool.and_eq_true, fitss_all (ts := ts)]
    simp only [List.mem_cons, forall_eq_or_imp]
mutual
theorem fits_rows {rows : List (List Nat × Int)} : ∀ t : Trm, fits rows t = true → ∀ s ∈ subs t, rowT s ∈ rows
  | .mk n ps, h, s, hs => by
    rw [fits, Bool.and_eq_true, decide_eq_true_eq] at h
    rw [subs] at hs
    rcases List.mem_append.mp hs with hs | hs
    · exact fitss_rows ps h.2 s hs
    · rw [List.mem_singleton] at hs
      subst hs
      exact h.1
theorem fitss_rows {rows : List (List Nat × Int)} : ∀ ts : List Trm, fitss rows ts = true → ∀ s ∈ subss ts, rowT s ∈ rows
  | [], _, s, hs => by rw [subss] at hs; cases hs
  | t :: ts, h, s, hs => by
    rw [fitss, Bool.and_eq_true] at h
    rw [subss] at hs
    rcases List.mem_append.mp hs with hs | hs
    · exact fits_rows t h.1 s hs
    · exact fitss_rows ts h.2 s hs
end
mutual
theorem fits_ok {rows : List (List Nat × Int)} (h : NamesOk rows) : ∀ t : Trm, fits rows t = true → t.ok = true
  | .mk n ps, hf => by
    rw [fits, Bool.and_eq_true, decide_eq_true_eq] at hf
    obtain ⟨h1, h2, h3⟩ := h.1 _ hf.1
    have h4 : ps.length ≤ 3 := by have : ((ps.length : Int)) ≤ 3 := h3; omega
    rw [Trm.ok, h1, decide_eq_true h4, fitss_ok h ps hf.2]
    rfl
theorem fitss_ok {rows : List (List Nat × Int)} (h : NamesOk rows) : ∀ ts : List Trm, fitss rows ts = true → Trm.oks ts = true
  | [], _ => rfl
  | t :: ts, hf => by
    rw [fitss, Bool.and_eq_true] at hf
    rw [Trm.oks, fits_ok h t hf.1, fitss_ok h ts hf.2]
    rfl
end
theorem nodup_fst {rows : List (List Nat × Int)} (h : (rows.map (·.1)).Nodup) : ∀ a ∈ rows, ∀ b ∈ rows, a.1 = b.1 → a = b := by
  induction rows with
  | nil => intro a ha; cases ha
  | cons r rows ih =>
    rw [List.map_cons, List.nodup_cons] at h
    intro a ha b hb e
    rcases List.mem_cons.mp ha with ha1 | ha1 <;> rcases List.mem_cons.mp hb with hb1 | hb1
    · rw [ha1, hb1]
    · subst ha1; exact absurd (List.mem_map.mpr ⟨b, hb1, e.symm⟩ : a.1 ∈ rows.map fun x => x.1) h.1
    · subst hb1; exact absurd (List.mem_map.mpr ⟨a, ha1, e⟩ : b.1 ∈ rows.map fun x => x.1) h.1
    · exact ih h.2 a ha1 b hb1 e
theorem fits_told {rows : List (List Nat × Int)} (h : NamesOk rows) (t : Trm) (hf : fits rows t = true) : (told ((subs t).map rowT) []).isSome = true := by
  rw [told_like _ _ (fun k d h => by cases h)]
  refine ⟨fun a ha b hb e => ?_, fun a _ c hc => by cases hc⟩
  obtain ⟨s, hs, rfl⟩ := List.mem_map.mp ha
  obtain ⟨u, hu, rfl⟩ := List.mem_map.mp hb
  rw [nodup_fst h.2.2.1 _ (fits_rows t hf s hs) _ (fits_rows t hf u hu) e]
def nb : Nat → Nat
  | 0 => 1
  | d + 1 => 1 + 3 * nb d
theorem nb_pos (d : Nat) : 1 ≤ nb d := by cases d <;> simp [nb]
/-! ### nodes and signs -/
def cnt (cs : List Nat) : Nat := cs.countP fun c => c == 40 || c == 44
theorem cnt_app (a b : List Nat) : cnt (a ++ b) = cnt a + cnt b := List.countP_append
theorem cnt_nm {n : List Nat} (h : isNm n = true) : cnt n = 0 := by
  refine List.countP_eq_zero.mpr fun c hc => ?_
  have h1 := (isNm_all h).1 c hc
  intro z
  simp only [Bool.or_eq_true, beq_iff_eq] at z
  rcases z with z | z <;> subst z <;> exact absurd h1 (by decide)
mutual
theorem nodes_cnt : ∀ t : Trm, t.ok = true → (subs t).length = 1 + cnt (txt t)
  | .mk n ps, h => by
    rw [Trm.ok, Bool.and_eq_true, Bool.and_eq_true] at h
    obtain ⟨⟨h1, _⟩, h3⟩ := h
    by_cases hp : ps = []
    · subst hp
      have et : txt (.mk n []) = n := by rw [txt]; rfl
      rw [et, cnt_nm h1]
      simp [subs, subss]
    · rw [subs, List.length_append, nodess_cnt ps h3 hp, txt_cons hp, cnt_app, cnt_app, cnt_app, cnt_nm h1]
      have e1 : cnt [40] = 1 := by decide
      have e2 : cnt [41] = 0 := by decide
      rw [e1, e2]
      simp only [List.length_cons, List.length_nil]
      omega
theorem nodess_cnt : ∀ ts : List Trm, Trm.oks ts = true → ts ≠ [] → (subss ts).length = 1 + cnt (joinD [44] (ts.map txt))
  | [], _, h => absurd rfl h
  | t :: ts, h, _ => by
    rw [Trm.oks, Bool.and_eq_true] at h
    by_cases hts : ts = []
    · subst hts
      rw [subss_one]
      exact nodes_cnt t h.1
    · rw [subss, List.length_append, nodes_cnt t h.1, nodess_cnt ts h.2 hts, List.map_cons, joinD_cons _ _ (by simpa using hts), cnt_app, cnt_app]
      have e1 : cnt [44] = 1 := by decide
      rw [e1]
      omega
end
mutual
theorem txt_len : ∀ t : Trm, t.ok = true → (txt t).length + 3 ≤ 11 * (subs t).length
  | .mk n ps, h => by
    rw [Trm.ok, Bool.and_eq_true, Bool.and_eq_true] at h
    obtain ⟨⟨h1, _⟩, h3⟩ := h
    have hn := (isNm_all h1).2.2
    by_cases hp : ps = []
    · subst hp
      have et : txt (.mk n []) = n := by rw [txt]; rfl
      rw [et]
      simp [subs, subss]
      omega
    · have i := txts_len ps h3 hp
      rw [subs, List.length_append, txt_cons hp]
      simp only [List.length_append, List.length_cons, List.length_nil]
      omega
theorem txts_len : ∀ ts : List Trm, Trm.oks ts = true → ts ≠ [] → (joinD [44] (ts.map txt)).length + 2 ≤ 11 * (subss ts).length
  | [], _, h => absurd rfl h
  | t :: ts, h, _ => by
    rw [Trm.oks, Bool.and_eq_true] at h
    have i1 := txt_len t h.1
    have hp : 1 ≤ (subs t).length := by cases t; rw [subs, List.length_append]; simp
    by_cases hts : ts = []
    · subst hts
      rw [subss_one]
      show (txt t).length + 2 ≤ _
      omega
    · have i2 := txts_len ts h.2 hts
      rw [subss, List.length_append, List.map_cons, joinD_cons _ _ (by simpa using hts)]
      simp only [List.length_append, List.length_cons, List.length_nil]
      omega
end
def rl : Nat → Nat
  | 0 => 2
  | d + 1 => 2 + 3 * rl d
theorem w_seqJ {u v : DTS} {D' : DEnds} {ρ : Env'} {O : OS} (P : Env' → OS → Prop) (h1 : ∀ J : Env' → OS → Prop, (∀ ρ' O', P ρ' O' → J ρ' O') → u { D' with nx := J } ρ O) (h2 : ∀ ρ' O', P ρ' O' → v D' ρ' O') : sSeq u v D' ρ O := h1 _ h2
theorem subss_len {ts : List Trm} {n : Nat} (h : ∀ t ∈ ts, (subs t).length ≤ n) : (subss ts).length ≤ ts.length * n := by
  induction ts with
  | nil => simp [subss]
  | cons t ts ih =>
    rw [subss, List.length_append, List.length_cons, Nat.succ_mul]
    have h1 := h t List.mem_cons_self
    have h2 := ih fun u hu => h u (List.mem_cons_of_mem _ hu)
    omega
theorem w_tone {i : Nat} {d : D} {ρ : Env'} {k : Env' → Prop} (q : k (DS.put ρ i d)) : Tgt.to (.one i) d ρ k := q
theorem w_yes {ρ : Env'} {O : OS} {Qb : Bool → OS → Prop} (q : Qb true O) : tYesD ρ O Qb := q
theorem prs_par {n : List Nat} {ps : List Trm} {r : List Nat} {f : Nat} (h : (Trm.mk n ps).ok = true) (hp : ps ≠ []) (hl : 2 * (txt (.mk n ps)).length ≤ f + 1) : prs (f + 1) (txt (.mk n ps) ++ r) = some (.mk n ps, r) := by
  rw [Trm.ok, Bool.and_eq_true, Bool.and_eq_true, decide_eq_true_eq] at h
  obtain ⟨⟨h1, h2⟩, h3⟩ := h
  obtain ⟨ha, hn, _⟩ := isNm_all h1
  have et : txt (.mk n ps) ++ r = n ++ (40 :: (joinD [44] (ps.map txt) ++ 41 :: r)) := by rw [txt_cons hp]; simp
  obtain ⟨e1, e2⟩ := stp_w (r := 40 :: (joinD [44] (ps.map txt) ++ 41 :: r)) ha (.inr ⟨_, rfl⟩)
  have hl2 : 2 * (joinD [44] (ps.map txt)).length + 1 ≤ f := by
    rw [txt_cons hp] at hl
    simp only [List.length_append, List.length_cons, List.length_nil] at hl
    omega
  rw [et, prs, e1, e2, if_pos h1, if_pos (show (40 :: (joinD [44] (ps.map txt) ++ 41 :: r)).head? = some 40 from rfl)]
  show clz n (prl f (joinD [44] (ps.map txt) ++ 41 :: r)) = _
  rw [(prs_full f).2 ps r h3 hp hl2]
  show (if _ ∧ _ then _ else _) = _
  rw [if_pos ⟨rfl, h2⟩]
  rfl
/-- a text told twice is no text of many nodes -/
theorem twice_few {t u : Trm} (h : t.ok = true) (hu : u.ok = true) (hc : (subs t).length ≤ 40) (e : txt t ++ txt t = txt u) : (subs u).length < 64 := by
  obtain ⟨n, ps⟩ := t
  by_cases hp : ps = []
  · subst hp
    have et : txt (.mk n []) = n := by rw [txt]; rfl
    rw [nodes_cnt u hu, ← e, cnt_app, et]
    rw [Trm.ok, Bool.and_eq_true, Bool.and_eq_true] at h
    rw [cnt_nm h.1.1]
    decide
  · exfalso
    have h1 := prs_par (r := txt (.mk n ps)) (f := 2 * (txt (.mk n ps)).length + 2 * (txt u).length) h hp (by omega)
    have h2 := (prs_full (2 * (txt (.mk n ps)).length + 2 * (txt u).length + 1)).1 u [] hu (.inl rfl) (by omega)
    rw [e] at h1
    rw [List.append_nil, h1] at h2
    have h3 := (Prod.mk.inj (Option.some.inj h2)).2
    rw [txt_cons hp] at h3
    have := congrArg List.length h3
    simp at this
theorem deq_refl : ∀ x : D, DS.plain x = true → deq x x = true := by
  intro x h
  exact (deq_refl' x).1 h
where
  deq_refl' : ∀ x : D, (DS.plain x = true → deq x x = true) ∧ True := fun x => ⟨go x, trivial⟩
  go : ∀ x : D, DS.plain x = true → deq x x = true
    | .non, _ => rfl
    | .bl b, _ => by simp [deq]
    | .int i, _ => by simp [deq]
    | .str cs, _ => by simp [deq]
    | .tup xs, h => by rw [deq]; exact gos xs h
    | .lst xs, h => by rw [deq]; exact gos xs h
    | .fl _, h => by cases h
    | .dic _, h => by cases h
    | .dit _, h => by cases h
    | .obj _ _, h => by cases h
    | .atm _, h => by cases h
  gos : ∀ xs : List D, plains xs = true → deqs xs xs = true
    | [], _ => rfl
    | x :: xs, h => by
      rw [plains, Bool.and_eq_true] at h
      rw [deqs, go x h.1, gos xs h.2]
      rfl
theorem cnt_td (cs : List Nat) (i : Nat) : cnt (cs.take i) + cnt (cs.drop i) = cnt cs := by
  rw [← cnt_app, List.take_append_drop]
end DS

namespace DS
open PySem PySem.Spec PyProof.Rows L2

/-! ### an order by data that are alike -/
structure OrdE {α : Type} (enc : α → D) : Prop where
  pl : ∀ a, plain (enc a) = true
  al : ∀ a b, PySem.W.alike (pd (enc a)) (pd (enc b)) = true
  inj : ∀ a b, deq (enc a) (enc b) = true → a = b
  so : ∀ l : List α, PySem.W.Sortable (l.map fun a => pd (enc a))
  nn : ∀ a, notNon (enc a) = true
section
variable {α : Type} {enc : α → D}
def ltE (enc : α → D) (a b : α) : Bool := dlt (enc a) (enc b)
theorem OrdE.irr (o : OrdE enc) (a : α) : ltE enc a a = false := lex_irrefl _
theorem OrdE.tr (o : OrdE enc) {a b c : α} (h : ltE enc a b = true) (g : ltE enc b c = true) : ltE enc a c = true := lex_trans _ _ _ h g
theorem OrdE.toks (o : OrdE enc) {a b : α} (h : PySem.W.keyToks (pd (enc a)) = PySem.W.keyToks (pd (enc b))) : a = b := by
  refine o.inj a b ?_
  rw [← eqv_pd (o.pl a) (o.pl b)]
  cases e : PyData.eqv (pd (enc a)) (pd (enc b)) with
  | true => rfl
  | false =>
    have h2 := (PySem.W.toks_eqv _ _ (o.al a b)).2 e
    rw [h] at h2
    have x1 := h2 [.inl 0] [.inl 1]
    have x2 := h2 [.inl 1] [.inl 0]
    rw [PySem.W.lex_pre] at x1 x2
    have y1 : PyProof.Rows.lexLt PyProof.Rows.itemOrd [Sum.inl (0 : Int)] [Sum.inl 1] = true := by rw [PySem.W.lex_one]; decide
    have y2 : PyProof.Rows.lexLt PyProof.Rows.itemOrd [Sum.inl (1 : Int)] [Sum.inl 0] = false := by rw [PySem.W.lex_one]; decide
    rw [y1] at x1
    rw [y2] at x2
    rw [← x1] at x2
    cases x2
theorem OrdE.tot (o : OrdE enc) {a b : α} (h : ltE enc a b = false) (g : ltE enc b a = false) : a = b := o.toks (lex_total _ _ h g)
theorem OrdE.asym (o : OrdE enc) {a b : α} (h : ltE enc a b = true) : ltE enc b a = false := by
  cases e : ltE enc b a with
  | false => rfl
  | true => have := o.tr h e; rw [o.irr] at this; cases this
theorem OrdE.eq_iff (o : OrdE enc) {a b : α} : deq (enc a) (enc b) = true ↔ a = b := by
  refine ⟨o.inj a b, ?_⟩
  rintro rfl
  rw [← eqv_pd (o.pl a) (o.pl a)]
  exact PySem.W.eqv_refl_alike _ (o.al a a)
/-- strictly ascending, the members of l -/
def IsS (enc : α → D) (s l : List α) : Prop := s.Pairwise (fun a b => ltE enc a b = true) ∧ ∀ a, a ∈ s ↔ a ∈ l
theorem OrdE.nodup (o : OrdE enc) {s : List α} (h : s.Pairwise (fun a b => ltE enc a b = true)) : s.Nodup := h.imp fun {a b} h e => by
  subst e; rw [o.irr] at h; cases h
theorem OrdE.uniq (o : OrdE enc) : ∀ {s t : List α}, s.Pairwise (fun a b => ltE enc a b = true) → t.Pairwise (fun a b => ltE enc a b = true) → (∀ a, a ∈ s ↔ a ∈ t) → s = t
  | [], [], _, _, _ => rfl
  | [], b :: t, _, _, h => by have := (h b).mpr List.mem_cons_self; cases this
  | a :: s, [], _, _, h => by have := (h a).mp List.mem_cons_self; cases this
  | a :: s, b :: t, hs, ht, h => by
    obtain ⟨h1, h2⟩ := List.pairwise_cons.mp hs
    obtain ⟨h3, h4⟩ := List.pairwise_cons.mp ht
    have e : a = b := by
      rcases List.mem_cons.mp ((h a).mp List.mem_cons_self) with e | m
      · exact e
      · rcases List.mem_cons.mp ((h b).mpr List.mem_cons_self) with e | m2
        · exact e.symm
        · have x1 := h3 a m
          have x2 := h1 b m2
          have := o.tr x1 x2
          rw [o.irr] at this
          cases this
    subst e
    have nd1 := o.nodup hs
    have nd2 := o.nodup ht
    rw [o.uniq h2 h4 fun c => ?_]
    constructor
    · intro hc
      rcases List.mem_cons.mp ((h c).mp (List.mem_cons_of_mem _ hc)) with e | m
      · subst e; exact absurd hc (List.nodup_cons.mp nd1).1
      · exact m
    · intro hc
      rcases List.mem_cons.mp ((h c).mpr (List.mem_cons_of_mem _ hc)) with e | m
      · subst e; exact absurd hc (List.nodup_cons.mp nd2).1
      · exact m
theorem IsS.uniq (o : OrdE enc) {s t l m : List α} (h : IsS enc s l) (g : IsS enc t m) (e : ∀ a, a ∈ l ↔ a ∈ m) : s = t := o.uniq h.1 g.1 fun a => (h.2 a).trans ((e a).trans (g.2 a).symm)
theorem OrdE.sort (o : OrdE enc) (l : List α) : ∃ s : List α, s.Perm l ∧ sortD (l.map enc) = s.map enc ∧ s.Pairwise (fun a b => ltE enc b a = false) := by
  obtain ⟨s, p, q⟩ := perm_map enc (List.mergeSort_perm (l.map enc) (PySem.W.dataLe false pd)) l rfl
  refine ⟨s, p, q.symm, ?_⟩
  have le : ∀ x y : D, PySem.W.dataLe false pd x y = !dlt y x := fun x y => rfl
  have tr : ∀ a b c : D, PySem.W.dataLe false pd a b = true → PySem.W.dataLe false pd b c = true → PySem.W.dataLe false pd a c = true := by
    intro a b c h g
    rw [le] at h g ⊢
    have h1 : dlt b a = false := by simpa using h
    have g1 : dlt c b = false := by simpa using g
    cases e : dlt c a with
    | false => rfl
    | true =>
      rcases lex_negTrans (O := PyProof.Rows.itemOrd) (PySem.W.keyToks (pd c)) (PySem.W.keyToks (pd b)) (PySem.W.keyToks (pd a)) e with z | z
      · rw [show dlt c b = true from z] at g1; cases g1
      · rw [show dlt b a = true from z] at h1; cases h1
  have to : ∀ a b : D, (PySem.W.dataLe false pd a b || PySem.W.dataLe false pd b a) = true := by
    intro a b
    rw [le, le]
    cases e : dlt b a with
    | false => rfl
    | true =>
      cases e2 : dlt a b with
      | false => rfl
      | true =>
        have := lex_trans _ _ _ (show PyProof.Rows.lexLt PyProof.Rows.itemOrd (PySem.W.keyToks (pd b)) (PySem.W.keyToks (pd a)) = true from e) e2
        rw [lex_irrefl] at this
        cases this
  have sp := List.pairwise_mergeSort tr to (l.map enc)
  rw [← q, List.pairwise_map] at sp
  exact sp.imp fun {a b} h => by
    rw [le] at h
    simpa [ltE] using h
theorem OrdE.strict (o : OrdE enc) {s : List α} (h : s.Pairwise (fun a b => ltE enc b a = false)) (n : s.Nodup) : s.Pairwise (fun a b => ltE enc a b = true) := by
  refine (h.and n).imp fun {a b} ⟨x, y⟩ => ?_
  cases e : ltE enc a b with
  | true => rfl
  | false => exact absurd (o.tot e x) y
theorem OrdE.sortOk (o : OrdE enc) (l : List α) (hd : ∀ a ∈ l, dep (enc a) ≤ 150) : DS.sortOk (l.map enc) := by
  refine ⟨?_, ?_, ?_, fun x hx => ?_⟩
  · clear hd
    induction l with
    | nil => rfl
    | cons a l ih => rw [List.map_cons, plains, o.pl a, ih]; rfl
  · rw [List.map_map]; exact PySem.W.AllAlike.of fun a b => o.al a b
  · rw [List.map_map]; exact o.so l
  · obtain ⟨a, ha, rfl⟩ := List.mem_map.mp hx
    exact hd a ha
end
/-! ### the order of terms, of pairs -/
mutual
theorem alike_tD : ∀ a b : Trm, PySem.W.alike (pd (tD a)) (pd (tD b)) = true
  | .mk n ps, .mk m qs => by
    rw [tD, tD, pd, pd, pds, pds, PySem.W.alike, PySem.W.alikeAll, alikes_tDs ps qs]
    rfl
theorem alikes_tDs : ∀ ps qs : List Trm, PySem.W.alikeAll (pds (tDs ps)) (pds (tDs qs)) = true
  | [], qs => by rw [tDs, pds, PySem.W.alikeAll]
  | p :: ps, [] => by rw [tDs, tDs, pds, pds, PySem.W.alikeAll]
  | p :: ps, q :: qs => by rw [tDs, tDs, pds, pds, PySem.W.alikeAll, alike_tD p q, alikes_tDs ps qs]; rfl
end
mutual
theorem deq_tD : ∀ a b : Trm, deq (tD a) (tD b) = true → a = b
  | .mk n ps, .mk m qs, h => by
    rw [tD, tD, deq, deqs, deq, Bool.and_eq_true] at h
    rw [eq_of_beq h.1, deqs_tDs ps qs h.2]
theorem deqs_tDs : ∀ ps qs : List Trm, deqs (tDs ps) (tDs qs) = true → ps = qs
  | [], [], _ => rfl
  | [], q :: qs, h => by simp [tDs, deqs] at h
  | p :: ps, [], h => by simp [tDs, deqs] at h
  | p :: ps, q :: qs, h => by
    rw [tDs, tDs, deqs, Bool.and_eq_true] at h
    rw [deq_tD p q h.1, deqs_tDs ps qs h.2]
end
theorem ordT : OrdE tD := ⟨plain_tD, alike_tD, deq_tD, fun l => PySem.W.Sortable.tuples fun a => by cases a with | mk n ps => exact ⟨_, _, by rw [tD, pd, pds]⟩, fun a => by cases a; rfl⟩
abbrev Pr := Trm × Trm
def pD (p : Pr) : D := .tup [tD p.1, tD p.2]
theorem ordP : OrdE pD := by
  refine ⟨fun a => ?_, fun a b => ?_, fun a b h => ?_, fun l => PySem.W.Sortable.tuples fun a => ⟨_, _, by rw [pD, pd, pds]⟩, fun a => rfl⟩
  · rw [pD, plain, plains, plains, plains, plain_tD, plain_tD]; rfl
  · rw [pD, pD, pd, pd, pds, pds, pds, pds, pds, pds, PySem.W.alike, PySem.W.alikeAll, PySem.W.alikeAll, alike_tD, alike_tD]; simp [PySem.W.alikeAll]
  · rw [pD, pD, deq, deqs, deqs, deqs, Bool.and_eq_true, Bool.and_eq_true] at h
    exact Prod.ext (deq_tD _ _ h.1) (deq_tD _ _ h.2.1)
/-! ### names -/
theorem ordN : OrdE D.str := by
  refine ⟨fun a => rfl, fun a b => by simp [pd, PySem.W.alike], fun a b h => ?_, fun l => PySem.W.Sortable.others fun a => ⟨by simp [pd], fun xs => by simp [pd]⟩, fun a => rfl⟩
  rw [deq] at h
  exact eq_of_beq h
theorem ltN (a b : List Nat) : ltE D.str a b = decide (a < b) := by
  show PySem.W.dataLt (.str (tx a)) (.str (tx b)) = _
  rw [PySem.W.dataLt_str]
  rfl
theorem OrdE.ntr {α : Type} {enc : α → D} (o : OrdE enc) {a b c : α} (h : ltE enc a b = false) (g : ltE enc b c = false) : ltE enc a c = false := by
  cases e : ltE enc a c with
  | false => rfl
  | true =>
    rcases lex_negTrans (O := PyProof.Rows.itemOrd) (PySem.W.keyToks (pd (enc a))) (PySem.W.keyToks (pd (enc b))) (PySem.W.keyToks (pd (enc c))) e with z | z
    · rw [show ltE enc a b = true from z] at h; cases h
    · rw [show ltE enc b c = true from z] at g; cases g
theorem rising_pw : ∀ (r : List (List Nat)) (a : List Nat), risingS (tx a) (r.map tx) = true → (a :: r).Pairwise (fun x y => ltE D.str y x = false)
  | [], a, _ => by simp
  | b :: r, a, h => by
    rw [List.map_cons, risingS, Bool.and_eq_true] at h
    have ih := rising_pw r b h.2
    have h1 : ltE D.str b a = false := by
      rw [ltN]
      have h2 := h.1
      rw [PyProof.Rows.ltCps_eq] at h2
      have h3 : decide ((tx b).cps.toList < (tx a).cps.toList) = false := by simpa using h2
      exact h3
    refine List.pairwise_cons.mpr ⟨fun c hc => ?_, ih⟩
    rcases List.mem_cons.mp hc with rfl | hc
    · exact h1
    · exact ordN.ntr ((List.pairwise_cons.mp ih).1 c hc) h1
theorem sortedS_pw {r : List (List Nat)} (h : sortedS (r.map tx) = true) : r.Pairwise (fun x y => ltE D.str y x = false) := by
  cases r with
  | nil => exact List.Pairwise.nil
  | cons a r => exact rising_pw r a h
end DS

namespace DS
open PySem PySem.Spec PyProof.Rows L2
/-! ### more steps -/
section
variable {α : Type} {enc : α → D} {ρ : Env'} {O O1 : OS} {Q : DQ} {Qn : Env' → OS → Prop} {d x y z : D} {xs ys ds : List D} {p : Addr} {te : DTE} {tl : DTA} {R : DRI} {D' : DEnds} {u : DTS} {kds lds : List (KD × D)} {i n : Int}
theorem w_notT {a : Bool} (q : Q (.bl (!a)) O) : cNotB (.bl a) (.bl true) O Q := by
  show Q (.bl (!decide (a = true))) O
  cases a <;> exact q
theorem w_isT {a : Bool} (q : Q (.bl a) O) : cIsB (.bl a) (.bl true) O Q := by
  show Q (.bl (decide (a = true))) O
  cases a <;> exact q
theorem w_isF {a : Bool} (q : Q (.bl (!a)) O) : cIsB (.bl a) (.bl false) O Q := by
  show Q (.bl (decide (a = false))) O
  cases a <;> exact q
theorem w_notF {a : Bool} (q : Q (.bl a) O) : cNotB (.bl a) (.bl false) O Q := by
  show Q (.bl (!decide (a = false))) O
  cases a <;> exact q
theorem w_rev (q : te ρ O fun d O1 => Vw O1 d fun d' => revQ d' O1 Q) : dRev te ρ O Q := q
theorem w_revL (q : Q (.lst xs.reverse) O) : revQ (.lst xs) O Q := q
theorem w_revT (q : Q (.tup xs.reverse) O) : revQ (.tup xs) O Q := q
theorem w_en (q : tl ρ O fun ds O1 => enumQ ds O1 R) : iEn tl ρ O R := q
theorem w_enL (q : R (enumD xs) kAny O) : enumQ [.lst xs] O R := q
theorem w_zp (q : tl ρ O fun ds O1 => zipQ ds O1 R) : iZp tl ρ O R := q
theorem w_zpL (q : R (zipD xs ys) kAny O) : zipQ [.lst xs, .lst ys] O R := q
theorem w_zpT (q : R (zipD xs ys) kAny O) : zipQ [.tup xs, .tup ys] O R := q
theorem w_gtl {is : List Nat} (h : xs.length = is.length) (q : Qn (puts ρ is xs) O) : gTl is (.lst xs) ρ O Qn := ⟨h, q⟩
theorem w_ltE (o : OrdE enc) {a b : α} (h : dep (enc a) ≤ 150) (q : Q (.bl (ltE enc a b)) O) : cLtD (enc a) (enc b) O Q := by
  exact ⟨⟨o.pl a, o.pl b, o.al a b, o.nn a, h⟩, q⟩
theorem w_eqE (o : OrdE enc) {a b : α} (h : dep (enc a) ≤ 150) (q : Q (.bl (deq (enc a) (enc b))) O) : cEq (enc a) (enc b) O Q := ⟨⟨o.pl a, o.pl b, .inl h⟩, q⟩
theorem w_neE (o : OrdE enc) {a b : α} (h : dep (enc a) ≤ 150) (q : Q (.bl (!deq (enc a) (enc b))) O) : cNe (enc a) (enc b) O Q := ⟨⟨o.pl a, o.pl b, .inl h⟩, q⟩
theorem w_mulLL (h1 : -(2 ^ 63) ≤ n) (h2 : n < 2 ^ 63) (h3 : xs.length * n.toNat ≤ sizeLine) (q : Q (.lst (List.replicate n.toNat xs).flatten) O) : iMulL (.lst xs) (.int n) O Q := ⟨⟨h1, h2, h3⟩, q⟩
theorem w_mulTT (h0 : xs ≠ []) (h1 : 2 ≤ n) (h2 : n ≤ 1000) (h3 : xs.length ≤ 1000) (q : Q (.tup (List.replicate n.toNat xs).flatten) O) : iMulL (.tup xs) (.int n) O Q := ⟨⟨h0, h1, h2, h3⟩, q⟩
theorem w_listDD (q : Q (.lst (kds.map fun kd => keyData' kd.1)) O) : bListD [.dic kds] O Q := q
theorem w_sortDD {bs : List (List Nat)} (h : strKeys kds = some bs) (h2 : bs.length < 64) (q : ∀ cs : List (List Nat), cs.Perm bs → sortedS (cs.map tx) = true → Q (.lst (cs.map .str)) O) : bSortD [.dic kds] O Q := ⟨bs, h, h2, q⟩
theorem w_dictM {l : List (KD × D)} (h : pairsKD xs = some l) (q : ∀ p, O p = none → Q (.atm (.ref p)) (oput O p (.dic (mergeD [] l)))) : bDictM [.lst xs] O Q := ⟨l, h, q⟩
theorem w_neDic (h : dictSame kds lds) (q : Q (.bl false) O) : cNeDic (.dic kds) (.dic lds) O Q := ⟨h, q⟩
theorem w_sfrz {i : Nat} (h : nth ρ i = some (.atm (.ref p))) (h2 : O p = some d) (q : u D' (DS.put ρ i d) (odel O p)) : sFrz i u D' ρ O := by
  unfold sFrz; rw [h]; simp only [h2]; exact q
theorem vw_get {h : vw O d = d} {k : D → Prop} (q : k d) : Vw O d k := w_vany h q
end
/-! ### data of known kinds -/
mutual
def typed : D → Bool
  | .tup xs => typeds xs
  | .dit _ => false
  | .obj _ _ => false
  | .atm _ => false
  | .tab _ => false
  | .clo _ _ => false
  | _ => true
def typeds : List D → Bool
  | [] => true
  | x :: xs => typed x && typeds xs
end
mutual
def dsz : D → Nat
  | .tup xs => 1 + dszs xs
  | _ => 1
def dszs : List D → Nat
  | [] => 0
  | x :: xs => dsz x + dszs xs
end
mutual
def tdp : D → Nat
  | .tup xs => 1 + tdps xs
  | _ => 0
def tdps : List D → Nat
  | [] => 0
  | x :: xs => max (tdp x) (tdps xs)
end
theorem typeds_all : ∀ {xs : List D}, typeds xs = true ↔ ∀ x ∈ xs, typed x = true
  | [] => by simp [typeds]
  | x :: xs => by rw [typeds, Bool.and_eq_true, typeds_all (xs := xs)]; simp
theorem tdps_le : ∀ {xs : List D} {n : Nat}, tdps xs ≤ n ↔ ∀ x ∈ xs, tdp x ≤ n
  | [], n => by simp [tdps]
  | x :: xs, n => by
    rw [tdps]
    have := tdps_le (xs := xs) (n := n)
    simp only [List.mem_cons, forall_eq_or_imp]
    rw [← this]; omega
theorem dszs_mem : ∀ {xs : List D} {x : D}, x ∈ xs → dsz x ≤ dszs xs
  | y :: xs, x, h => by
    rw [dszs]
    rcases List.mem_cons.mp h with e | h
    · subst e; omega
    · have := dszs_mem h; omega
theorem dsz_pos (x : D) : 1 ≤ dsz x := by cases x <;> simp [dsz]
theorem dszs_len : ∀ xs : List D, xs.length ≤ dszs xs
  | [] => Nat.zero_le _
  | x :: xs => by
    rw [dszs, List.length_cons]
    have := dszs_len xs
    have := dsz_pos x
    omega
theorem vw_typed {O : OS} {d : D} (h : typed d = true) : vw O d = d := by
  cases d with
  | atm v => simp [typed] at h
  | _ => rfl
theorem w_vt {O : OS} {d : D} {k : D → Prop} (h : typed d = true) (q : k d) : Vw O d k := w_vany (vw_typed h) q
theorem typed_ty {d : D} (h : typed d = true) : ∃ n, tyName d = some n ∧ n ∈ tyNames := by
  cases d with
  | atm v => simp [typed] at h
  | dit v => simp [typed] at h
  | obj v => simp [typed] at h
  | tab v => simp [typed] at h
  | clo v => simp [typed] at h
  | _ => exact ⟨_, rfl, by decide⟩
/-- isinstance of data: the class's own name, or int for a truth value -/
theorem w_isiA {O : OS} {Q : DQ} {d : D} {n : String} (h : typed d = true) (hn : n ∈ tyNames) (q : ∀ m, tyName d = some m → Q (.bl (isiB m n)) O) : bIsi' [d, .atm (.ty n)] O Q := by
  obtain ⟨m, e, _⟩ := typed_ty h
  refine ⟨fun k z => by subst z; simp [typed] at h, ?_⟩
  show (match tyName d with | some m => n ∈ tyNames ∧ Q (.bl (isiB m n)) O | none => False)
  rw [e]
  exact ⟨hn, q m e⟩
def isTupD : D → Bool
  | .tup _ => true
  | _ => false
def isStrD : D → Bool
  | .str _ => true
  | _ => false
theorem w_isiTup {O : OS} {Q : DQ} {d : D} (h : typed d = true) (q : Q (.bl (isTupD d)) O) : bIsi' [d, .atm (.ty "tuple")] O Q := by
  refine w_isiA h (by decide) fun m e => ?_
  cases d <;> first | (cases e; exact q) | (simp [typed] at h)
theorem w_isiStr {O : OS} {Q : DQ} {d : D} (h : typed d = true) (q : Q (.bl (isStrD d)) O) : bIsi' [d, .atm (.ty "str")] O Q := by
  refine w_isiA h (by decide) fun m e => ?_
  cases d <;> first | (cases e; exact q) | (simp [typed] at h)
theorem isTupD_elim {d : D} (h : isTupD d = true) : ∃ xs, d = .tup xs := by
  cases d with
  | tup xs => exact ⟨xs, rfl⟩
  | _ => cases h
theorem isStrD_elim {d : D} (h : isStrD d = true) : ∃ xs, d = .str xs := by
  cases d with
  | str xs => exact ⟨xs, rfl⟩
  | _ => cases h
mutual
theorem typed_tD : ∀ t : Trm, typed (tD t) = true
  | .mk n ps => by rw [tD, typed, typeds, typeds_tDs ps]; rfl
theorem typeds_tDs : ∀ ts : List Trm, typeds (tDs ts) = true
  | [] => by rw [tDs, typeds]
  | t :: ts => by rw [tDs, typeds, typed_tD t, typeds_tDs ts]; rfl
end
mutual
theorem tdp_tD : ∀ t : Trm, tdp (tD t) = tdep t
  | .mk n ps => by rw [tD, tdp, tdps, tdps_tDs ps, tdep]; simp only [tdp]; omega
theorem tdps_tDs : ∀ ts : List Trm, tdps (tDs ts) = tdeps ts
  | [] => by rw [tDs, tdps, tdeps]
  | t :: ts => by rw [tDs, tdps, tdp_tD t, tdps_tDs ts, tdeps]
end
mutual
theorem dsz_tD : ∀ t : Trm, dsz (tD t) = 2 * (subs t).length
  | .mk n ps => by rw [tD, dsz, dszs, dszs_tDs ps, subs, List.length_append, List.length_cons, List.length_nil]; simp only [dsz]; omega
theorem dszs_tDs : ∀ ts : List Trm, dszs (tDs ts) = 2 * (subss ts).length
  | [] => by rw [tDs, dszs, subss]; rfl
  | t :: ts => by rw [tDs, dszs, dsz_tD t, dszs_tDs ts, subss, List.length_append]; omega
end
/-! ### data as terms -/
mutual
def toTrm : D → Option Trm
  | .tup (.str n :: xs) => match toTrms xs with
    | some ps => if isNm n = true ∧ ps.length ≤ 3 then some (.mk n ps) else none
    | none => none
  | _ => none
def toTrms : List D → Option (List Trm)
  | [] => some []
  | x :: xs => match toTrm x, toTrms xs with
    | some t, some ts => some (t :: ts)
    | _, _ => none
end
mutual
theorem toTrm_tD : ∀ t : Trm, t.ok = true → toTrm (tD t) = some t
  | .mk n ps, h => by
    rw [Trm.ok, Bool.and_eq_true, Bool.and_eq_true, decide_eq_true_eq] at h
    rw [tD, toTrm, toTrms_tDs ps h.2]
    simp only
    rw [if_pos ⟨h.1.1, h.1.2⟩]
theorem toTrms_tDs : ∀ ts : List Trm, Trm.oks ts = true → toTrms (tDs ts) = some ts
  | [], _ => by rw [tDs, toTrms]
  | t :: ts, h => by
    rw [Trm.oks, Bool.and_eq_true] at h
    rw [tDs, toTrms, toTrm_tD t h.1, toTrms_tDs ts h.2]
end
mutual
theorem toTrm_is : ∀ (d : D) (t : Trm), toTrm d = some t → d = tD t ∧ t.ok = true
  | .tup (.str n :: xs), t, h => by
    rw [toTrm] at h
    cases e : toTrms xs with
    | none => rw [e] at h; cases h
    | some ps =>
      rw [e] at h
      simp only at h
      split at h
      · rename_i c
        cases h
        obtain ⟨e1, e2⟩ := toTrms_is xs ps e
        rw [e1, Trm.ok, c.1, e2, decide_eq_true c.2, tD]
        exact ⟨rfl, rfl⟩
      · cases h
  | .tup [], t, h => by simp [toTrm] at h
  | .tup (.non :: xs), t, h => by simp [toTrm] at h
  | .tup (.bl _ :: xs), t, h => by simp [toTrm] at h
  | .tup (.int _ :: xs), t, h => by simp [toTrm] at h
  | .tup (.tup _ :: xs), t, h => by simp [toTrm] at h
  | .tup (.lst _ :: xs), t, h => by simp [toTrm] at h
  | .tup (.fl _ :: xs), t, h => by simp [toTrm] at h
  | .tup (.dic _ :: xs), t, h => by simp [toTrm] at h
  | .tup (.dit _ :: xs), t, h => by simp [toTrm] at h
  | .tup (.obj _ _ :: xs), t, h => by simp [toTrm] at h
  | .tup (.atm _ :: xs), t, h => by simp [toTrm] at h
  | .non, t, h => by simp [toTrm] at h
  | .bl _, t, h => by simp [toTrm] at h
  | .int _, t, h => by simp [toTrm] at h
  | .str _, t, h => by simp [toTrm] at h
  | .lst _, t, h => by simp [toTrm] at h
  | .fl _, t, h => by simp [toTrm] at h
  | .dic _, t, h => by simp [toTrm] at h
  | .dit _, t, h => by simp [toTrm] at h
  | .obj _ _, t, h => by simp [toTrm] at h
  | .atm _, t, h => by simp [toTrm] at h
theorem toTrms_is : ∀ (ds : List D) (ts : List Trm), toTrms ds = some ts → ds = tDs ts ∧ Trm.oks ts = true
  | [], ts, h => by rw [toTrms] at h; cases h; rw [tDs]; exact ⟨rfl, rfl⟩
  | d :: ds, ts, h => by
    rw [toTrms] at h
    cases e1 : toTrm d with
    | none => rw [e1] at h; cases h
    | some t =>
      cases e2 : toTrms ds with
      | none => rw [e1, e2] at h; cases h
      | some us =>
        rw [e1, e2] at h
        cases h
        obtain ⟨a1, a2⟩ := toTrm_is d t e1
        obtain ⟨b1, b2⟩ := toTrms_is ds us e2
        rw [tDs, a1, b1, Trm.oks, a2, b2]
        exact ⟨rfl, rfl⟩
end
theorem toTrms_len : ∀ {ds : List D} {ts : List Trm}, toTrms ds = some ts → ts.length = ds.length := fun {ds ts} h => by
  rw [(toTrms_is ds ts h).1, tDs_len]
theorem toTrms_some : ∀ ds : List D, (toTrms ds).isSome = ds.all fun d => (toTrm d).isSome
  | [] => by rw [toTrms]; rfl
  | d :: ds => by
    rw [toTrms, List.all_cons, ← toTrms_some ds]
    cases toTrm d with
    | none => rfl
    | some t =>
      cases toTrms ds with
      | none => rfl
      | some ts => rfl
end DS

namespace DS
open PySem PySem.Spec PyProof.Rows L2
/-! ### repr of data, where it is known what is being shown -/
def kpd : KD → PyData
  | .i n => .int n
  | .s cs => .str (tx cs)
mutual
def pq : D → PyData
  | .bl b => .bool b
  | .int i => .int i
  | .str x => .str (tx x)
  | .tup xs => .tuple (pqs xs)
  | .lst xs => .list (pqs xs)
  | .dic kds => .dict (pqk kds)
  | _ => .none
def pqs : List D → List PyData
  | [] => []
  | x :: xs => pq x :: pqs xs
def pqk : List (KD × D) → List (PyData × PyData)
  | [] => []
  | (k, d) :: r => (kpd k, pq d) :: pqk r
end
def kshow : KD → Bool
  | .i n => decide (n.natAbs.log2 < 1920)
  | .s _ => true
mutual
/-- lists and no dicts, or dicts and no lists -/
def shw (m : Bool) : D → Bool
  | .non => true
  | .bl _ => true
  | .int i => decide (i.natAbs.log2 < 1920)
  | .str _ => true
  | .tup xs => shws m xs
  | .lst xs => m && shws m xs
  | .dic kds => !m && shwk m kds
  | _ => false
def shws (m : Bool) : List D → Bool
  | [] => true
  | x :: xs => shw m x && shws m xs
def shwk (m : Bool) : List (KD × D) → Bool
  | [] => true
  | (k, d) :: r => kshow k && (shw m d && shwk m r)
end
theorem kpd_show {k : KD} (h : kshow k = true) : (kpd k).showable = true := by
  cases k with
  | i n => simp only [kpd, PyData.showable]; exact h
  | s cs => rfl
theorem kpd_dict (k : KD) : (kpd k).hasDict = false := by cases k <;> rfl
theorem kpd_dep (k : KD) : (kpd k).depth = 0 := by cases k <;> rfl
mutual
theorem pq_show {m : Bool} : ∀ {x : D}, shw m x = true → (pq x).showable = true
  | .non, _ => rfl
  | .bl _, _ => rfl
  | .int i, h => by simp only [pq, PyData.showable]; exact h
  | .str _, _ => rfl
  | .tup xs, h => by simp only [pq, PyData.showable]; exact pqs_show h
  | .lst xs, h => by
    simp only [shw, Bool.and_eq_true] at h
    simp only [pq, PyData.showable]; exact pqs_show h.2
  | .dic kds, h => by
    simp only [shw, Bool.and_eq_true] at h
    simp only [pq, PyData.showable]; exact pqk_show h.2
  | .fl _, h => by cases h
  | .dit _, h => by cases h
  | .obj _ _, h => by cases h
  | .atm _, h => by cases h
theorem pqs_show {m : Bool} : ∀ {xs : List D}, shws m xs = true → PyData.showableAll (pqs xs) = true
  | [], _ => rfl
  | x :: xs, h => by
    simp only [shws, Bool.and_eq_true] at h
    simp only [pqs, PyData.showableAll, Bool.and_eq_true]
    exact ⟨pq_show h.1, pqs_show h.2⟩
theorem pqk_show {m : Bool} : ∀ {xs : List (KD × D)}, shwk m xs = true → PyData.showableKv (pqk xs) = true
  | [], _ => rfl
  | (k, d) :: xs, h => by
    simp only [shwk, Bool.and_eq_true] at h
    simp only [pqk, PyData.showableKv, Bool.and_eq_true]
    exact ⟨⟨kpd_show h.1, pq_show h.2.1⟩, pqk_show h.2.2⟩
end
mutual
theorem pq_nodict : ∀ {x : D}, shw true x = true → (pq x).hasDict = false
  | .non, _ => rfl
  | .bl _, _ => rfl
  | .int i, h => rfl
  | .str _, _ => rfl
  | .tup xs, h => by simp only [pq, PyData.hasDict]; exact pqs_nodict h
  | .lst xs, h => by
    simp only [shw, Bool.and_eq_true] at h
    simp only [pq, PyData.hasDict]; exact pqs_nodict h.2
  | .dic kds, h => by simp [shw] at h
  | .fl _, h => by cases h
  | .dit _, h => by cases h
  | .obj _ _, h => by cases h
  | .atm _, h => by cases h
theorem pqs_nodict : ∀ {xs : List D}, shws true xs = true → PyData.hasDictAll (pqs xs) = false
  | [], _ => rfl
  | x :: xs, h => by
    simp only [shws, Bool.and_eq_true] at h
    simp only [pqs, PyData.hasDictAll, Bool.or_eq_false_iff]
    exact ⟨pq_nodict h.1, pqs_nodict h.2⟩
end
mutual
def dpq : D → Nat
  | .tup xs => dpqs xs + 1
  | .lst xs => dpqs xs + 1
  | .dic xs => dpqk xs + 1
  | _ => 0
def dpqs : List D → Nat
  | [] => 0
  | x :: xs => max (dpq x) (dpqs xs)
def dpqk : List (KD × D) → Nat
  | [] => 0
  | (k, d) :: xs => max (dpq d) (dpqk xs)
end
mutual
theorem pq_dep : ∀ (x : D), (pq x).depth = dpq x
  | .non => rfl
  | .bl _ => rfl
  | .int i => rfl
  | .str _ => rfl
  | .tup xs => by simp only [pq, PyData.depth, dpq]; rw [pqs_dep xs]
  | .lst xs => by simp only [pq, PyData.depth, dpq]; rw [pqs_dep xs]
  | .dic kds => by simp only [pq, PyData.depth, dpq]; rw [pqk_dep kds]
  | .fl _ => rfl
  | .dit _ => rfl
  | .obj _ _ => rfl
  | .atm _ => rfl
  | .tab _ => rfl
  | .clo _ _ => rfl
theorem pqs_dep : ∀ (xs : List D), PyData.depthAll (pqs xs) = dpqs xs
  | [] => rfl
  | x :: xs => by simp only [pqs, PyData.depthAll, dpqs]; rw [pq_dep x, pqs_dep xs]
theorem pqk_dep : ∀ (xs : List (KD × D)), PyData.depthKv (pqk xs) = dpqk xs
  | [] => rfl
  | (k, d) :: xs => by
    simp only [pqk, PyData.depthKv, dpqk]; rw [kpd_dep k, pq_dep d, pqk_dep xs]
    omega
end
theorem pairs_keys {P : Program} {w : World} {h : Heap} : ∀ {es : List DictEntry} {kvs : List (Key × V)} {vs : List (Key × Value)} {kds : List (KD × D)} {K : PySem.W.Frag} {F : Hp}, Pairs (mixKind P w) es vs → KV kvs vs → IsK K F kds kvs → ReadsAll h (es.map (·.key)) ((pqk kds).map (·.1)) []
  | [], _, _, kds, K, F, p, k, i => by
    cases p
    cases k
    cases kds with
    | nil => exact ReadsAll.nil
    | cons a r => obtain ⟨k, d⟩ := a; simp only [IsK] at i; obtain ⟨_, _, z, _⟩ := i; cases z
  | e :: es, _, _, kds, K, F, p, k, i => by
    cases p with
    | cons p1 p2 p3 =>
      cases k with
      | cons k1 k2 =>
        cases kds with
        | nil => simp only [IsK] at i; cases i
        | cons a r =>
          obtain ⟨kd, d⟩ := a
          simp only [IsK] at i
          obtain ⟨v, t, z, i1, i2, _⟩ := i
          cases z
          have q := pairs_keys (h := h) p3 k2 i2
          have k3 := k1.1
          rw [← k3] at p1
          simp only [pqk, List.map_cons]
          have one : Reads h e.key (kpd kd) [] := by
            cases kd with
            | i n =>
              have p1 : keyIs (.inl n) e.key = true := p1
              simp only [keyIs] at p1
              cases hk : e.key <;> rw [hk] at p1 <;> simp [Value.isInt] at p1
              subst p1
              exact Reads.int _ _
            | s cs =>
              have p1 : keyIs (.inr (tx cs)) e.key = true := p1
              simp only [keyIs] at p1
              cases hk : e.key <;> rw [hk] at p1 <;> simp [Value.isStrOf] at p1
              subst p1
              exact Reads.str _ _
          exact ReadsAll.cons one q
section
variable {X : Cx} {pins : List (Addr × Obj)} {σ : L2.St} {F H : Hp} {s : Shared} {m : Bool}
mutual
theorem reads_pq (I : Inv X pins σ H s) (e : Ext F H) : ∀ {x : D} {v : V} {u : Value}, shw m x = true → Is X.K F x v → RelV v u → ∃ as, Reads s.heap u (pq x) as ∧ (m = false → sysModules ∉ as)
  | .non, _, _, _, h, r => by simp only [Is] at h; subst h; cases r; exact ⟨_, Reads.none, fun _ => List.not_mem_nil⟩
  | .bl b, _, _, _, h, r => by simp only [Is] at h; subst h; cases r; exact ⟨_, Reads.bool b, fun _ => List.not_mem_nil⟩
  | .int i, _, _, _, h, r => by simp only [Is] at h; subst h; obtain ⟨t, rfl⟩ := r; exact ⟨_, Reads.int i t, fun _ => List.not_mem_nil⟩
  | .str i, _, _, _, h, r => by simp only [Is] at h; obtain ⟨rfl, _⟩ := h; obtain ⟨t, rfl⟩ := r; exact ⟨_, Reads.str _ t, fun _ => List.not_mem_nil⟩
  | .tup xs, _, _, hx, h, r => by
    simp only [Is] at h
    obtain ⟨a, vs, rfl, h2, h3, _⟩ := h
    cases r
    obtain ⟨its, rv, ⟨o, ho, hc, n, hd⟩, _⟩ := I.tuple (SqT.of (e _ _ h2))
    obtain ⟨as, hr, hn⟩ := reads_pqs I e (by simpa [shw] using hx) h3 rv
    exact ⟨_, Reads.tuple ho hc hd hr, hn⟩
  | .lst xs, _, _, hx, h, r => by
    simp only [Is] at h
    obtain ⟨a, vs, rfl, h2, h3, _⟩ := h
    cases r
    obtain ⟨its, rv, ⟨o, n, ho, hc, _, hd⟩, _⟩ := I.list (.of (e _ _ h2))
    simp only [shw, Bool.and_eq_true] at hx
    obtain ⟨as, hr, _⟩ := reads_pqs I e hx.2 h3 rv
    exact ⟨_, Reads.list ho hc hd hr, fun z => by rw [hx.1] at z; cases z⟩
  | .dic kds, _, _, hx, h, r => by
    simp only [Is] at h
    obtain ⟨a, o, kvs, rfl, h2, h3, _⟩ := h
    cases r
    obtain ⟨ns, ho, hex, es, ep, vs, hd, _, kv, o', es', ho', _, hd', _, hp, _⟩ := I.frzK (e _ _ h2)
    rw [ho] at ho'
    cases ho'
    rw [hd] at hd'
    cases hd'
    simp only [shw, Bool.and_eq_true] at hx
    obtain ⟨bs, hr, hn⟩ := reads_pqk I e hx.2 h3 kv hp
    refine ⟨_, Reads.dict ho hex.1 hd (pairs_keys hp kv h3) hr, fun z => ?_⟩
    simp only [List.cons_append, List.nil_append, List.mem_cons, not_or]
    exact ⟨fun z2 => by rw [← z2] at ns; simp at ns, hn z⟩
  | .fl xs, _, _, hx, _, _ => by simp [shw] at hx
  | .dit xs, _, _, hx, _, _ => by simp [shw] at hx
  | .obj _ xs, _, _, hx, _, _ => by simp [shw] at hx
  | .atm _, _, _, hx, _, _ => by simp [shw] at hx
theorem reads_pqs (I : Inv X pins σ H s) (e : Ext F H) : ∀ {xs : List D} {vs : List V} {us : List Value}, shws m xs = true → Iss X.K F xs vs → Vals vs us → ∃ as, ReadsAll s.heap us (pqs xs) as ∧ (m = false → sysModules ∉ as)
  | [], _, _, _, h, r => by simp only [Iss] at h; subst h; cases r; exact ⟨_, ReadsAll.nil, fun _ => List.not_mem_nil⟩
  | x :: xs, _, _, hx, h, r => by
    simp only [shws, Bool.and_eq_true] at hx
    simp only [Iss] at h
    obtain ⟨v, t, rfl, h2, h3⟩ := h
    cases r with
    | cons r1 r2 =>
      obtain ⟨as, q1, n1⟩ := reads_pq I e hx.1 h2 r1
      obtain ⟨bs, q2, n2⟩ := reads_pqs I e hx.2 h3 r2
      exact ⟨_, ReadsAll.cons q1 q2, fun z => by rw [List.mem_append, not_or]; exact ⟨n1 z, n2 z⟩⟩
theorem reads_pqk (I : Inv X pins σ H s) (e : Ext F H) : ∀ {kds : List (KD × D)} {kvs : List (Key × V)} {vs : List (Key × Value)} {es : List DictEntry}, shwk m kds = true → IsK X.K F kds kvs → KV kvs vs → Pairs (mixKind X.prog X.w) es vs → ∃ as, ReadsAll s.heap (es.map (·.val)) ((pqk kds).map (·.2)) as ∧ (m = false → sysModules ∉ as)
  | [], _, _, _, _, h, k, p => by
    simp only [IsK] at h; subst h; cases k; cases p
    exact ⟨_, ReadsAll.nil, fun _ => List.not_mem_nil⟩
  | (kd, d) :: r, _, _, _, hx, h, k, p => by
    simp only [shwk, Bool.and_eq_true] at hx
    simp only [IsK] at h
    obtain ⟨v, t, rfl, h2, h3, _⟩ := h
    cases k with
    | cons k1 k2 =>
      cases p with
      | cons p1 p2 p3 =>
        obtain ⟨as, q1, n1⟩ := reads_pq I e hx.2.1 h2 k1.2
        obtain ⟨bs, q2, n2⟩ := reads_pqk I e hx.2.2 h3 k2 p3
        simp only [pqk, List.map_cons]
        rw [p2]
        exact ⟨_, ReadsAll.cons q1 q2, fun z => by rw [List.mem_append, not_or]; exact ⟨n1 z, n2 z⟩⟩
end
end
section
variable {X : Cx} {pins : List (Addr × Obj)} {σ : L2.St} {F H : Hp} {s : Shared} {m : Bool}
theorem reads_pqV (I : Inv X pins σ H s) (e : Ext F H) {x : D} {v : V} {u : Value} (hx : shw m x = true) (h : IsV X.K F H x v) (r : RelV v u) : ∃ as, Reads s.heap u (pq x) as ∧ (m = false → sysModules ∉ as) := by
  cases x with
  | lst xs =>
    obtain ⟨a, vs, rfl, h2, h3, _⟩ := h
    cases r
    obtain ⟨its, rv, ⟨o, n, ho, hc, _, hd⟩, _⟩ := I.list (.of h2)
    simp only [shw, Bool.and_eq_true] at hx
    obtain ⟨as, hr, _⟩ := reads_pqs I e hx.2 h3 rv
    exact ⟨_, Reads.list ho hc hd hr, fun z => by rw [hx.1] at z; cases z⟩
  | dic kds =>
    obtain ⟨a, kvs, rfl, h2, h3, _⟩ := h
    cases r
    obtain ⟨_, ns, vs, kv, o, es, ep, ho, hex, hd, _, hp, _⟩ := dk_rd I.hok h2
    simp only [shw, Bool.and_eq_true] at hx
    obtain ⟨bs, hr, hn⟩ := reads_pqk I e hx.2 h3 kv hp
    refine ⟨_, Reads.dict ho hex.1 hd (pairs_keys hp kv h3) hr, fun z => ?_⟩
    simp only [List.cons_append, List.nil_append, List.mem_cons, not_or]
    exact ⟨fun z2 => by rw [← z2] at ns; simp at ns, hn z⟩
  | non => exact reads_pq I e hx (by simpa only [Is, IsV] using h) r
  | bl _ => exact reads_pq I e hx (by simpa only [Is, IsV] using h) r
  | int _ => exact reads_pq I e hx (by simpa only [Is, IsV] using h) r
  | str _ => exact reads_pq I e hx (by simpa only [Is, IsV] using h) r
  | tup _ => exact reads_pq I e hx (by simpa only [Is, IsV] using h) r
  | fl _ => cases hx
  | dit _ => cases hx
  | obj _ _ => cases hx
  | atm _ => cases hx
  | tab _ => cases hx
  | clo _ _ => cases hx
end
/-- what repr makes of data -/
def rep (d : D) : Str := (pq d).shown
def RepOk (d : D) : Prop := (∃ m, shw m d = true) ∧ dpq d ≤ 150 ∧ (rep d).length ≤ sizeLine
def rReprV (K : PySem.W.Frag) : List V → Hp → VK → Prop := fun xs H Q => ∃ F d v, xs = [v] ∧ Ext F H ∧ IsV K F H d v ∧ RepOk d ∧ Q (.str (rep d)) H
theorem call_reprV {X : Cx} {k : Nat} (hg : X.A.guards = some []) (hr : Room k X.A) : CallR X (.builtin "repr") (rReprV X.K) := by
  intro pins s σ H xs us Q I r h
  obtain ⟨F, d, v, rfl, e, i, ⟨⟨m, hs⟩, hd, hz⟩, q⟩ := h
  obtain ⟨u, rfl, ru⟩ := vals1 r
  obtain ⟨as, hrd, hn⟩ := reads_pqV I e hs i ru
  have hun : X.A.units + ((pq d).depth + 1) < cLine := by
    have := hr.un
    rw [pq_dep]; omega
  have hm : (pq d).hasDict = true → sysModules ∉ as := fun z => by
    cases m with
    | true => rw [pq_nodict hs] at z; cases z
    | false => exact hn rfl
  have fin : ∀ (h' : Heap) (t tk : Nat), (∀ (b : Addr) (o : Obj), s.heap.get? b = some o → h'.get? b = some o) → EP X pins σ Q (.str (pq d).shown t) { heap := h', gens := s.gens, drawn := s.drawn, toks := tk, os := s.os } := fun h' t tk hk => ⟨.str (pq d).shown, H, I.kept hk, ⟨t, rfl⟩, q⟩
  have gen : ∀ a, u = .ref a → wpAny (model X.prog X.w) X.A (call (.builtin "repr") [u]) (EP X pins σ Q) X.xe s := fun a ea => by
    subst ea
    exact PySem.repr_of_reads' hrd (pq_show hs) hm hg hun (fun _ _ z => z) (fun h' t tk hk => fin h' t tk hk) hz
  cases d with
  | tup xs => obtain ⟨a, vs, rfl, _⟩ := i; cases ru; exact gen a rfl
  | lst xs => obtain ⟨a, vs, rfl, _⟩ := i; cases ru; exact gen a rfl
  | dic xs => obtain ⟨a, vs, rfl, _⟩ := i; cases ru; exact gen a rfl
  | non =>
    have i : v = .non := i
    subst i; cases ru
    exact PySem.P.repr_of_none (fin _ _ _ fun _ _ z => z)
  | bl b =>
    have i : v = .bl b := i
    subst i; cases ru
    exact PySem.P.repr_of_bool (fin _ _ _ fun _ _ z => z)
  | int b =>
    have i : v = .int b := i
    subst i; obtain ⟨t, rfl⟩ := ru
    exact PySem.P.repr_of_int (of_decide_eq_true hs) (fin _ _ _ fun _ _ z => z)
  | str b =>
    obtain ⟨i, _⟩ := i
    subst i; obtain ⟨t, rfl⟩ := ru
    exact PySem.P.repr_of_str (fin _ _ _ fun _ _ z => z) hz
  | fl _ => cases hs
  | dit _ => cases hs
  | obj _ _ => cases hs
  | atm _ => cases hs
  | tab _ => cases hs
  | clo _ _ => cases hs
def bRepr : DRL
  | [d], O, Q => RepOk d ∧ Q (.atm (.str (rep d))) O
  | _, _, _ => False
theorem l_repr {K : PySem.W.Frag} : Lb K bRepr (rReprV K) := by
  intro ds O Qd Z F H vs Q r is h c
  unfold bRepr at h
  split at h
  · obtain ⟨v, rfl, i⟩ := issV1 is
    obtain ⟨h1, h2⟩ := h
    exact ⟨F, _, v, rfl, r.sub, i, h1, c _ _ _ _ _ r Ext.refl (by simp only [Is]) h2⟩
  · exact h.elim
def cEqR : DR2 := fun x y O Q => match x, y with
  | .atm (.str a), .atm (.str b) => Q (.bl (decide (a = b))) O
  | _, _ => False
def cNeR : DR2 := fun x y O Q => match x, y with
  | .atm (.str a), .atm (.str b) => Q (.bl (!decide (a = b))) O
  | _, _ => False
theorem l_eqR {K : PySem.W.Frag} : Lop K cEqR rEq := fun x y O Qd Z F H vx vy Q r ix iy h c => by
  unfold cEqR at h
  split at h
  · rename_i a b
    have ix : vx = .str a := ix
    have iy : vy = .str b := iy
    subst ix iy
    refine ⟨rfl, c _ _ _ _ _ r Ext.refl Is.mkBl ?_⟩
    rw [show decide (V.str a = V.str b) = decide (a = b) from by simp]
    exact h
  · exact h.elim
theorem l_neR {K : PySem.W.Frag} : Lop K cNeR rNe := fun x y O Qd Z F H vx vy Q r ix iy h c => by
  unfold cNeR at h
  split at h
  · rename_i a b
    have ix : vx = .str a := ix
    have iy : vy = .str b := iy
    subst ix iy
    refine ⟨rfl, c _ _ _ _ _ r Ext.refl Is.mkBl ?_⟩
    rw [show decide (V.str a = V.str b) = decide (a = b) from by simp]
    exact h
  · exact h.elim
/-! ### functions that want to know what is being shown: nothing -/
structure FnOkG (P : Program) (w : World) (K : PySem.W.Frag) (mg : Str → Option Value) (base : Heap) (CX : CXT) (k : Nat) (f : Addr) (fd : FuncData) (ps : List Str) (sp : Sp) : Prop where
  len : ∀ vs H Q E, sp vs H Q E → vs.length = ps.length
  run : ∀ (A : Around) (outer : List Env) (s : Shared) (H : Hp) (args : Args) (us : List Value) (vs : List V) (Q : VK) (E : XK), A.guards = some [] → Room k A → Env0 P w K mg base A outer s H → BindsTo s fd args (ps.zip us) → Vals vs us → sp vs H Q E →
    codeAny (model P w) A (.call (.ref f) args) (CR CX outer P w H s Q E) s
def FnRG (P : Program) (w : World) (K : PySem.W.Frag) (mg : Str → Option Value) (base : Heap) (CX : CXT) (k : Nat) (f : Addr) (sp : Sp) : Prop :=
  ∀ (A : Around) (outer : List Env) (s : Shared) (H : Hp) (us : List Value) (vs : List V) (Q : VK) (E : XK), A.guards = some [] → Room k A → Env0 P w K mg base A outer s H → Vals vs us → sp vs H Q E →
    codeAny (model P w) A (.call (.ref f) { pos := us }) (CR CX outer P w H s Q E) s
structure DFnG (P : Program) (w : World) (K : PySem.W.Frag) (mg : Str → Option Value) (base : Heap) (x : Str) (k : Nat) (sp : DSp) : Prop where
  ex : ∃ f, mg x = some (.ref f) ∧ PySem.W.keepIn K (.ref f) = true ∧ FnRG P w K mg base (CX P w) k f (liftF K sp)
theorem DFnG.mono {P : Program} {w : World} {K : PySem.W.Frag} {mg : Str → Option Value} {base : Heap} {x : Str} {j k : Nat} {sp : DSp} (F : DFnG P w K mg base x j sp) (h : j ≤ k) : DFnG P w K mg base x k sp := by
  obtain ⟨f, h1, h2, h3⟩ := F.ex
  exact ⟨f, h1, h2, fun A outer s H us vs Q E hg hr e0 r h4 => h3 A outer s H us vs Q E hg (hr.mono h) e0 r h4⟩
section
variable {X : Cx} {F0 : Bs} {CX' : CXT} {k : Nat} {f : Addr} {sp : Sp} {x : Str} {p pos : Pos} {e : Expr} {es : List Expr} {t : TA} {td : DTA} {W : DWX} {spd : DSp} {E : L2.St → XK}
theorem run_fnRG {pins : List (Addr × Obj)} {σ : L2.St} {H : Hp} {s : Shared} {Q : VK} {us : List Value} {vs : List V} {E : XK} (F : FnRG X.prog X.w X.K X.mg X.base CX' k f sp) (hgd : X.A.guards = some []) (hr : Room k X.A) (hx : PassesAt CX' X σ E) (I : Inv X pins σ H s) (r : Vals vs us) (h : sp vs H Q E) :
    wpAny (model X.prog X.w) X.A (call (.ref f) us) (EP X pins σ Q) X.xe s := by
  refine wpAny_call (codeAny_mono (F X.A X.stack s H us vs Q E hgd hr I.env0 r h) fun r s' hq => ?_)
  cases r with
  | error e => exact hx pins H s e s' I hq
  | ok fl =>
    cases fl with
    | ret u => exact I.after hq
    | next => exact False.elim hq
    | brk => exact False.elim hq
    | cont => exact False.elim hq
theorem pe_callRG (F : FnRG X.prog X.w X.K X.mg X.base CX' k f sp) (hgd : X.A.guards = some []) (hr : Room k X.A) (hk : PySem.W.keepIn X.K (.ref f) = true) (hg : Gl X x) (hm : X.mg x = some (.ref f)) (hx : ∀ σ, PassesAt CX' X σ (E σ)) (ha : PA X (e :: es) t) (hd : (x == ("__debug__" : Str)) = false := by decide)
    (he : starEach (e :: es) X.env = (false, eval e X.env) :: starEach es X.env := by rfl) (hst : (backTo pos (starEach es X.env)).any (·.1) = false := by rfl) :
    PE X (.Call (.Name x p) (e :: es) [] pos) (fun σ H Q => t σ H fun vs H1 => sp vs H1 Q (E σ)) := by
  refine ⟨fun pins s σ H Q I h => ?_⟩
  refine wpAny_Call_Name_kw (ld_glob I hg hm ?_ hd)
  refine PySem.W.callWith_K (h₀ := X.base) I.ok.mod.kin hk (thn (ha.run pos pins s σ H _ I h) fun us s1 ⟨vs, H1, I1, r, q⟩ => ⟨I1.kIn, ?_⟩) he hst
  exact run_fnRG F hgd hr (hx σ) I1 r q
theorem de_callG (F : DFnG X.prog X.w X.K X.mg X.base x k spd) (hgd : X.A.guards = some []) (hr : Room k X.A) (hp : PassD X F0 W) (hg : Gl X x) (ha : DA X F0 (e :: es) td) (hd : (x == ("__debug__" : Str)) = false := by decide)
    (he : starEach (e :: es) X.env = (false, eval e X.env) :: starEach es X.env := by rfl) (hst : (backTo pos (starEach es X.env)).any (·.1) = false := by rfl) :
    DE X F0 (.Call (.Name x p) (e :: es) [] pos) (dCall spd W td) := by
  obtain ⟨f, hm, hk, FR⟩ := F.ex
  exact PE.imp (pe_callRG FR hgd hr hk hg hm hp ha hd he hst) fun σ H Q h => lift_call (ta := liftA X.K F0 td) h id
end
section
variable {CX' : CXT} {P : Program} {w : World} {K : PySem.W.Frag} {mg : Str → Option Value} {base : Heap} {k : Nat} {f : Addr} {name qual : Str} {params : Arguments} {body : List Stmt} {scope : Scope} {dV kV doc pm cdv ct oc : Value} {an od : Option Addr} {osl : Array (Option Value)} {N ps : List Str} {sp : Sp}
theorem fn_ofG (lk : K.lookup f = some { cls := oc, dict := od, data := .func (PySem.W.fnOf name qual params body scope dV kV doc pm an cdv ct), slots := osl }) (hcd : PySem.W.codeIn K cdv qual = true) (S : FnScope N ps scope) (len : ∀ vs H Q E, sp vs H Q E → vs.length = ps.length)
    (hbody : ∀ (A : Around) (outer : List Env) (s : Shared) (H : Hp) (vs : List V) (Q : VK) (E : XK), A.guards = some [] → Room k (A.deeper (envOfC qual scope s.heap.objs.size f cdv)) → sp vs H Q E →
      ∃ t, PSs (cxOf CX' P w K mg base N qual scope f cdv A outer s H E) body t ∧ t { nx := fun _ H' => Q .non H', rt := Q } (L2.start N vs) H) :
    FnOkG P w K mg base CX' (k + 1) f (PySem.W.fnOf name qual params body scope dV kV doc pm an cdv ct) ps sp := by
  refine ⟨len, fun A outer s H args us vs Q E hgd hr e0 hb r hsp => ?_⟩
  have hl := len vs H Q E hsp
  have KX := PySem.W.Frag.In.keeps e0.mod.kin fun b o e => (e0.bs b o e).1
  have lim := PySem.Heap.NoLimit.keeps e0.mod.nolimit fun b o e => (e0.bs b o e).1
  refine codeAny_call_function hr.depth (KX f _ lk) rfl S.co S.gen rfl (PySem.W.codeRec_of KX hcd) (hb (model P w) A.in1 _ _ ?_)
  refine wpAny_newFunctionEnv_cells S.kind (fun x hy => ?_) fun env he s1 hx => ?_
  · obtain ⟨n, v⟩ := x
    rcases S.par n (List.of_mem_zip hy).1 with q | q
    · exact .inl q
    · exact .inr ⟨q, PySem.W.cellsFrom_some scope.names (s.heap.objs.size + 1) [] (.inl q)⟩
  · subst he
    refine ⟨PySem.Heap.NoLimit.keeps lim hx.toInCall.keep, codeAny_func ?_⟩
    obtain ⟨t, ht, hq⟩ := hbody A outer s H vs Q E hgd (hr.deeper _) hsp
    have I := L2.inv_start (CX := CX') (E := E) S hr.hd e0 hl r hx
    refine wpAny_mono (ht.run [] s1 (L2.start N vs) H _ I hq) (fun fl s' hs => ?_) fun _ _ hs => hs
    have fin : ∀ {σ' : L2.St} {H' : Hp} {v : V} {u : Value}, Inv (cxOf CX' P w K mg base N qual scope f cdv A outer s H E) [] σ' H' s' → RelV v u → Q v H' → CR CX' outer P w H s Q E (.ok (.ret u)) s' := fun J rv q => ⟨_, _, J.os, J.bare, J.base, J.hok, rv, q⟩
    cases fl with
    | next => obtain ⟨σ', H', J, q⟩ := hs; exact fin (v := .non) J rfl q
    | brk => obtain ⟨_, _, _, q⟩ := hs; exact q.elim
    | cont => obtain ⟨_, _, _, q⟩ := hs; exact q.elim
    | ret u => obtain ⟨v, σ', H', J, rv, q⟩ := hs; exact fin J rv q
end
section
variable {P : Program} {w : World} {K : PySem.W.Frag} {mg : Str → Option Value} {base : Heap} {x qual : Str} {params : Arguments} {body : List Stmt} {scope : Scope} {dvs : List V} {kws : List (Str × V)} {f : Addr} {fd : FuncData}
theorem okDG {N ps : List Str} {k : Nat} {sp : DSp} {t : DWX → DTS} (F : FunD K x qual params body scope dvs kws f fd) (S : FnScope N ps scope) (len : ∀ ds O Q E, sp ds O Q E → ds.length = ps.length)
    (hd : ∀ (cdv : Value) (A : Around) (outer : List Env) (s : Shared) (H : Hp) (E : XK) (F0 : Bs) (W : DWX), Takes (cxOf (CX P w) P w K mg base N qual scope f cdv A outer s H E) (liftW K F0 W) → Room k (A.deeper (envOfC qual scope s.heap.objs.size f cdv)) → A.guards = some [] →
      DSs (cxOf (CX P w) P w K mg base N qual scope f cdv A outer s H E) F0 body (t W))
    (hv : ∀ ds O Q E, sp ds O Q E → t (fun x _ O => dropE E x O) ⟨fun _ O => dropQ Q .non O, dropQ Q, fun _ _ => False, fun _ _ => False⟩ (startD N ds) O) : FnOkG P w K mg base (CX P w) (k + 1) f fd ps (liftF K sp) := by
  obtain ⟨oc, od, dV, kV, doc, pm, an, cdv, ct, osl, rfl, lk, hcd, _, _⟩ := F.ex
  have G : FnOkG P w K mg base (CX P w) (k + 1) f (PySem.W.fnOf x qual params body scope dV kV doc pm an cdv ct) ps (liftF K (sp2 sp)) := by
    refine fn_ofG lk hcd S (fun vs H Q E h => ?_) (fun A outer s H vs Q E hgd hr h => ?_)
    · obtain ⟨Z, ds, O, F, Qd, Ed, _, is, ⟨_, _, h, _⟩, _, _⟩ := h
      rw [← is.len]; exact len _ _ _ _ h
    · obtain ⟨Z, ds, O, F0, Qd, Ed, r, is, ⟨Q0, E0, h, e1, e2⟩, c, cx⟩ := h
      subst e1 e2
      have tk : Takes (cxOf (CX P w) P w K mg base N qual scope f cdv A outer s H E) (fun c d _ H' => E c d H') := takes_of (E₁ := fun e' s'' => L2.CX P w outer H s E e' s'') rfl rfl rfl rfl
      refine ⟨_, hd cdv A outer s H E (F0, Z) (fun x _ O => dropE E0 x O) (tk.imp fun c d σ H' q => ?_) hr hgd, lift_body r is (hv _ _ _ _ h) c⟩
      obtain ⟨Z', ρ, O', F', x, a, ix, hx⟩ := q
      have e : Z' = Z := a.zz
      subst e
      exact cx _ _ _ _ _ _ a.rep a.ext ix hx
  exact ⟨fun vs H Q E h => G.len vs H Q E (liftF_drop vs H Q E h), fun A outer s H args us vs Q E hg hr e0 hb r h => G.run A outer s H args us vs Q E hg hr e0 hb r (liftF_drop vs H Q E h)⟩
theorem mkDFnG {k : Nat} {ps : List Str} {sp : DSp} (F : FunD K x qual params body scope [] [] f fd) (gm : mg x = some (.ref f)) (hb : Binds K fd ps []) (h : FnOkG P w K mg base (CX P w) k f fd ps (liftF K sp)) : DFnG P w K mg base x k sp := by
  refine ⟨f, gm, F.kp, fun A outer s H us vs Q E hg hr e0 r hs => ?_⟩
  have hl : us.length = ps.length := by rw [← h.len vs H Q E hs]; exact r.length.symm
  have z := hb s us (PySem.W.Frag.In.keeps e0.mod.kin fun b o e => (e0.bs b o e).1) (by rw [List.append_nil]; exact hl)
  rw [List.append_nil] at z
  exact h.run A outer s H { pos := us } us vs Q E hg hr e0 z r hs
end
section
variable {P : Program} {w : World} {K : PySem.W.Frag} {mg mb : Str → Option Value} {CX' : CXT} {k : Nat} {fa a : Addr} {fd : FuncData} {x : Str} {sp : Sp} {s₁ : Shared} {vs : List Value} {ns : List Int}
theorem law_callG (KX : K.In s₁.heap) (hns : s₁.heap.Ns mainGlobals mg) (hb : s₁.heap.Ns builtinsNs mb) (hbb : ∀ x : Str, x ≠ "__name__" → mb x = bootBuiltins x) (hlim : s₁.heap.NoLimit) (hg : s₁.gens = #[])
    (ha : s₁.heap.get? a = some { cls := .type "list", data := .seq vs.toArray }) (hi : IntsAre vs ns) (hl : ns.length ≤ sizeLine) (hr : Room k callerA)
    (F : ∀ base : Heap, K.In base → base.Ns mainGlobals mg → FnOkG P w K mg base CX' k fa fd [x] sp) (hbind : ∀ (s : Shared) (u : Value), BindsTo s fd { pos := [u] } [(x, u)])
    (hsp : ∀ H : Hp, SqL K H a (ns.map V.int) → sp [.ref a] H (fun v _ => v = .bl true) fun _ _ _ => False) (hCX : ∀ (H : Hp) (e : Value) (s' : Shared), CX' [] H s₁ (fun _ _ _ => False) e s' → False) :
    codeAny (model P w) callerA (.call (.ref fa) { pos := [.ref a] }) (fun r s' => r = .ok (.ret (.bool true)) ∧ OldK s₁.heap s'.heap ∧ s'.os = s₁.os ∧ AllBare s'.gens) s₁ := by
  have rv := vals_ints hi
  have lenV := hi.length
  have core : ∀ H : Hp, (∀ b, H b = none ∨ ∃ o xs, H b = some (.frz o (.lst xs))) → SqL K H a (ns.map V.int) → HOk P w H s₁.heap → (∀ b, H b ≠ none → b = a) → (H a ≠ none → K.lookup a = none) →
      codeAny (model P w) callerA (.call (.ref fa) { pos := [.ref a] }) (fun r s' => r = .ok (.ret (.bool true)) ∧ OldK s₁.heap s'.heap ∧ s'.os = s₁.os ∧ AllBare s'.gens) s₁ := fun H hO hS hok hA hK => by
    have noA : ∀ {b : Addr} {o : Obj} {es : Array DictEntry} {ep : Nat}, s₁.heap.get? b = some o → o.data = .dict es ep → H b = none := fun {b o es ep} e d => by
      cases q : H b with
      | none => rfl
      | some u =>
        have := hA b (by rw [q]; simp)
        subst this
        rw [ha] at e; cases e; cases d
    have nsK : ∀ {b : Addr} {m : Str → Option Value}, s₁.heap.Ns b m → (hidT s₁.heap H).Ns b m := fun {b m} z => by
      obtain ⟨o, es, ep, e, d, r⟩ := z
      exact ⟨o, es, ep, hidT_get e (noA e d), d, r⟩
    have hKb : K.In (hidT s₁.heap H) := fun b o e => hidT_get (KX b o e) (by
      cases q : H b with
      | none => rfl
      | some u =>
        have := hA b (by rw [q]; simp)
        subst this
        rw [hK (by rw [q]; simp)] at e; cases e)
    have hM : Mod K mg (hidT s₁.heap H) := ⟨hKb, nsK hns, ⟨mb, nsK hb, hbb⟩, by obtain ⟨mc, h1, h2⟩ := hlim; exact ⟨mc, nsK h1, h2⟩⟩
    have e0 : Env0 P w K mg (hidT s₁.heap H) callerA [] s₁ H := ⟨rfl, hM, fun b o e => of_hidT e, Nat.le_of_eq (hidT_size s₁.heap H), trivial, fun b hb => (by cases hb), hok, AllBare.of_eq hg⟩
    refine codeAny_mono ((F (hidT s₁.heap H) hKb (nsK hns)).run callerA [] s₁ H { pos := [.ref a] } [.ref a] [.ref a] _ _ rfl hr e0 (hbind s₁ (.ref a)) (.cons rfl .nil) (hsp H hS)) fun r s' h => ?_
    cases r with
    | error e => exact (hCX H e s' h).elim
    | ok fl =>
      cases fl with
      | next => exact False.elim h
      | brk => exact False.elim h
      | cont => exact False.elim h
      | ret u =>
        obtain ⟨v, H', os, bare, un, hok', rr, q⟩ := h
        have q : v = .bl true := q
        subst q
        have rr : u = .bool true := rr
        subst rr
        refine ⟨rfl, OldK.of_keep fun b o e => ?_, os, bare⟩
        cases q : H b with
        | none => exact un.keep b o e q (by simp [frs]) (by simp)
        | some u =>
          rcases hO b with z | ⟨ob, xs, z⟩
          · rw [q] at z; cases z
          · have z2 := un.frzs b ob (.lst xs) z
            obtain ⟨e1, _⟩ := hok b _ z
            obtain ⟨e2, _⟩ := hok' b _ z2
            rw [e] at e1; cases e1
            exact e2
  cases hk : K.lookup a with
  | none =>
    refine core (fun b => if b = a then some (.frz { cls := .type "list", data := .seq vs.toArray } (.lst (ns.map V.int))) else none) (fun b => ?_) (.inl (.inr ⟨_, if_pos rfl⟩)) (fun b u z => ?_) (fun b z => ?_) fun _ => hk
    · by_cases e : b = a
      · exact .inr ⟨_, _, if_pos e⟩
      · exact .inl (if_neg e)
    · by_cases e : b = a
      · subst e
        have z : (if b = b then some (HO.frz { cls := .type "list", data := .seq vs.toArray } (.lst (ns.map V.int))) else none) = some u := z
        rw [if_pos rfl] at z
        cases z
        exact ⟨ha, by rw [List.length_map]; exact hl, vs, 0, rv, ha⟩
      · have z : (if b = a then some (HO.frz { cls := .type "list", data := .seq vs.toArray } (.lst (ns.map V.int))) else none) = some u := z
        rw [if_neg e] at z; cases z
    · by_cases e : b = a
      · exact e
      · exact absurd (if_neg e) z
  | some o =>
    have e := KX a o hk
    rw [ha] at e
    cases e
    exact core (fun _ => none) (fun _ => .inl rfl) (.inr ⟨_, vs.toArray, 0, hk, rfl, rfl, rfl, by rw [List.size_toArray, lenV]; exact hl, rv⟩) (fun b u z => by cases z) (fun b z => absurd rfl z) fun z => absurd rfl z
end
def LawAtG (l : PySem.W.OpenLaw) (w : World) (K : PySem.W.Frag) (CX : CXT) (k n : Nat) (x : Str) (mg : Str → Option Value) (fa : Addr) : Prop :=
  ∃ fd sp, (∀ (s : Shared) (u : Value), BindsTo s fd { pos := [u] } [(x, u)]) ∧
    (∀ (H : Hp) (a : Addr) (ns : List Int), ns.length ≤ n → SqL K H a (ns.map V.int) → sp [.ref a] H (fun v _ => v = .bl true) fun _ _ _ => False) ∧
    ∀ base : Heap, K.In base → base.Ns mainGlobals mg → FnOkG l.prog w K mg base CX k fa fd [x] sp
theorem walk_ofG {l : PySem.W.OpenLaw} {n k : Nat} {q : Program} {loose : List Str} {XP : (Str → Option Value) → Heap → Prop} {YP : World → Heap → Prop} {d : DefRec} {CX : World → CXT} {x : Str} (hn : l.most = some n) (hn2 : n ≤ sizeLine) (hdf : d.params.defaults = []) (hr : Room k callerA)
    (F : ∀ (w : World) (mg : Str → Option Value) (fa : Addr) (h : Heap), YP w h → h.Ns mainGlobals mg → mg d.name = some (.ref fa) → ∃ K, K.In h ∧ LawAtG l w K (CX w) k n x mg fa)
    (hCX : ∀ (w : World) (H : Hp) (s : Shared) (e : Value) (s' : Shared), CX w [] H s (fun _ _ _ => False) e s' → False) :
    PySem.W.WalkO q loose XP YP l.row.toRowW d [] fun f vs => call f vs :=
  Att.attach_callB hn hdf fun w s₀ s₁ mg mb fa o pm cd doc a vs ns G Y ho hd hcd hmg hobj hints hlen hbits hg => by
    obtain ⟨K, KX, fd, sp, hb, hsp, hF⟩ := F w mg fa s₁.heap Y G.T.g hmg
    exact law_callG KX G.T.g G.T.b G.T.builtins G.T.nolimit hg hobj hints (Nat.le_trans hlen hn2) hr hF hb (fun H hS => hsp H a ns hlen hS) fun H e s' => hCX w H s₁ e s'
end DS

namespace DS
open PySem PySem.Spec PyProof.Rows L2
/-! ### a lambda without parameters, handed to a def -/
section
variable {X : Cx} {pins : List (Addr × Obj)} {σ : L2.St} {H : Hp} {s : Shared}
theorem lam_make3 {R : Addr → Prop} {c P : Addr} {ps : Array Value} {params : Arguments} {body : Expr} {scope : Scope} {pos : Pos} {E : Value → Shared → Prop} {Q : Value → Shared → Prop} (I : Inv X pins σ H s) (TB : LamX.TabB X.base X.mg c P) (hcode : X.env.code = .ref c)
    (hP : H P = some (.tbl ps)) (ht : TriplesOk ps.toList) (ha : ∀ (pos : Pos) (cv : Value), codeAmong pos ps.toList = some cv → ∃ c, cv = .ref c ∧ H c = some (LamX.CodeO c (X.env.qual ++ "<lambda>")) ∧ R c)
    (hdef : defaultsOf params X.env = ([], [])) (hfree : ∀ y ∈ scope.names, y.2 = .free → ∃ c, X.env.cells.lookup y.1 = some c)
    (h : ∀ (f c' : Addr) (pm ctv : Value) (H1 : Hp) (s' : Shared), Inv X pins σ H1 s' →
      ((H1 = H ∧ H c' = some (LamX.CodeO c' (X.env.qual ++ "<lambda>")) ∧ R c') ∨ ∃ more : Array Value, H1 = upd (upd H P (.tbl (ps ++ more))) c' (LamX.CodeO c' (X.env.qual ++ "<lambda>")) ∧ H c' = none ∧ TriplesOk (ps ++ more).toList ∧
        ∀ (pos : Pos) (cv : Value), codeAmong pos (ps ++ more).toList = some cv → codeAmong pos ps.toList = some cv ∨ cv = .ref c') →
      s'.heap.get? f = some (PySem.W.kla_obj "<lambda>" (X.env.qual ++ "<lambda>") params body scope (cloFrom X.env.cells scope.names []) pm c' ctv) → H1 f = none → f ∉ frs X.stack → Q (.ref f) s') :
    wpAny (model X.prog X.w) X.A (eval (.Lambda params body scope pos) X.env) Q E s := by
  refine PySem.W.kla_eval hdef ?_
  have bP : s.heap.BuiltinsAt X.mg P := TB.bm.keeps I.bk
  have hP' : s.heap.get? P = some { cls := .none, data := .fields ps } := I.hok P _ hP
  have nofr : ∀ f, s.heap.objs.size ≤ f → f ∉ frs X.stack := fun f hf z => by
    rcases List.mem_cons.mp (I.stkSub _ z) with e | e
    · have h1 := I.lt
      rw [← e] at h1
      exact Nat.lt_irrefl _ (Nat.lt_of_lt_of_le h1 hf)
    · exact I.nofs hf e
  cases hc : codeAmong pos ps.toList with
  | none =>
    refine PySem.W.kla_makeFunction (mg := X.mg) (c := c) (P := P) (ps := ps) (closure_ok hfree) I.ok.glob (I.mod.glob.keeps I.bk) hcode (TB.code.keeps I.bk) hP' ht hc TB.gP bP fun c' ctv h' tk hx hge hlt hrec htb => ?_
    obtain ⟨c2, oc, vs, t, e2, hoc, hd, hv⟩ := hrec
    cases e2
    have hsz : s.heap.objs.size ≤ h'.objs.size := Nat.le_trans hge (Nat.le_of_lt hlt)
    have nC : H c' = none := I.hok.fresh hge
    have I1 := LamX.inv_table (t' := tk) (more := #[rawInt pos.line, rawInt pos.col, .ref c']) (h' := h'.push (PySem.W.kla_obj "<lambda>" (X.env.qual ++ "<lambda>") params body scope (cloFrom X.env.cells scope.names []) ((X.mg "__name__").getD .none) c' ctv)) I hP
      (fun b o hb e => Heap.get?_push_of_some _ (hx b o hb e)) (Heap.get?_push_of_some _ htb) hge ⟨oc, vs, t, Heap.get?_push_of_some _ hoc, hd, hv⟩
    have eL : (ps ++ #[rawInt pos.line, rawInt pos.col, .ref c']).toList = ps.toList ++ [rawInt pos.line, rawInt pos.col, .ref c'] := by simp
    refine h h'.objs.size c' ((X.mg "__name__").getD .none) ctv _ _ I1 (.inr ⟨_, rfl, nC, by rw [eL]; exact PySem.TriplesOk_snoc _ _ _ _ ht, fun p' cv hcv => ?_⟩) (Heap.get?_push_size _ rfl) ?_ (nofr _ hsz)
    · rw [eL] at hcv
      exact LamX.among_app _ ht hcv
    · have n1 : h'.objs.size ≠ c' := Nat.ne_of_gt hlt
      have n2 : h'.objs.size ≠ P := Nat.ne_of_gt (Nat.lt_of_lt_of_le (Heap.lt_size hP') hsz)
      rw [upd_ne n1, upd_ne n2]
      exact I.hok.fresh hsz
  | some cv =>
    obtain ⟨c', e, hco, hR⟩ := ha pos cv hc
    subst e
    refine PySem.W.kla_makeFunctionHit (mg := X.mg) (c := c) (P := P) (ps := ps) (closure_ok hfree) I.ok.glob (I.mod.glob.keeps I.bk) hcode (TB.code.keeps I.bk) hP' ht hc bP fun ctv h' tk hx hsz => ?_
    have I1 : Inv X pins σ H { s with heap := h'.push (PySem.W.kla_obj "<lambda>" (X.env.qual ++ "<lambda>") params body scope (cloFrom X.env.cells scope.names []) ((X.mg "__name__").getD .none) c' ctv), toks := tk } := I.kept fun b o e => Heap.get?_push_of_some _ (hx b o e)
    exact h h'.objs.size c' ((X.mg "__name__").getD .none) ctv H _ I1 (.inl ⟨rfl, hco, hR⟩) (Heap.get?_push_size _ rfl) (I.hok.fresh hsz) (nofr _ hsz)
/-- x(), in the def that got the lambda: what is raised is as the caller of x() wants it where it stands -/
theorem pe_act2 {CXg : CXT} {Eg : XK} {Ng : List Str} {qg : Str} {sg : Scope} {g f c' : Addr} {cdg pm ctv : Value} {params : Arguments} {body : Expr} {scope : Scope} {k i : Nat} {a : Str} {pn : List (Addr × Obj)} {xe : Value → Shared → Prop} {tb : XK → TE} {p1 p2 : Pos}
    (I : Inv X pins σ H s) (L : LamX.LamS X.env.scope scope) (hf : s.heap.get? f = some (PySem.W.kla_obj "<lambda>" (X.env.qual ++ "<lambda>") params body scope (cloFrom X.env.cells scope.names []) pm c' ctv)) (hfn : H f = none) (hfr : f ∉ frs X.stack)
    (hbind : bindArgs (PySem.W.kla_fn "<lambda>" (X.env.qual ++ "<lambda>") params body scope (cloFrom X.env.cells scope.names []) pm (.ref c') ctv) ⟨[], []⟩ = pure [])
    (hr : Room (k + 1) (X.A.deeper (envOfC qg sg s.heap.objs.size g cdg)))
    (hbody : ∀ (E : XK) (A : Around) (outer : List Env) (s : Shared) (H : Hp), Room k (A.deeper (LamX.lamEnv X scope s.heap.objs.size f c')) → PE (LamX.lamCx X A outer s H E scope f c') body (tb E))
    (hN : Ng[i]? = some a) (hv : Vis sg a) (hd : (a == ("__debug__" : Str)) = false) (hcd : (a == ("__classdict__" : Str)) = false) :
    PE ((cxOf CXg X.prog X.w X.K X.mg X.base Ng qg sg g cdg X.A X.stack s H Eg).tr pn xe) (.Call (.Name a p1) [] [] p2)
      (fun σZ HZ Q => σZ[i]? = some (some (.ref f)) ∧ HZ c' = some (LamX.CodeO c' (X.env.qual ++ "<lambda>")) ∧ ∃ E : XK, PassesAt (L2.CX X.prog X.w) ((cxOf CXg X.prog X.w X.K X.mg X.base Ng qg sg g cdg X.A X.stack s H Eg).tr pn xe) σZ E ∧ tb E σ HZ Q) := by
  refine ⟨fun pinsZ sZ σZ HZ Q IZ h => ?_⟩
  obtain ⟨hs, hc, E, hx, ht⟩ := h
  refine wpAny_Call_Name_kw (thn ((pe_var (pos := p1) (i := i) hN hv hd hcd).run pinsZ sZ σZ HZ (fun v H1 => v = .ref f ∧ H1 = HZ) IZ ⟨.ref f, hs, rfl, rfl⟩) fun u s1 ⟨v, H1, I1, r1, q1⟩ => ?_)
  obtain ⟨ev, eH⟩ := q1
  subst ev
  rw [eH] at I1
  obtain rfl : u = Value.ref f := r1
  have of1 : s1.heap.get? f = some (PySem.W.kla_obj "<lambda>" (X.env.qual ++ "<lambda>") params body scope (cloFrom X.env.cells scope.names []) pm c' ctv) := I1.base.keep f _ hf hfn hfr (fun z => nomatch (show f ∈ ([] : List Addr) from z))
  refine PySem.W.callWith_F0 ⟨_, _, _, _, of1⟩ ?_
  have un : Un (frs X.stack) [] H HZ s.heap s1.heap := I1.base
  obtain ⟨⟨oc, vs, t, hoc, hdc, hvc⟩, _, _⟩ := I1.hok c' _ hc
  have rc : codeAny (model X.prog X.w) (X.A.deeper (envOfC qg sg s.heap.objs.size g cdg)) (.call (.ref f) ⟨[], []⟩) (CR (L2.CX X.prog X.w) (envOfC qg sg s.heap.objs.size g cdg :: X.stack) X.prog X.w HZ s1 Q E) s1 := by
    refine PySem.W.kla_callFunE hr.depth of1 rfl L.co L.gen rfl ⟨c', oc, vs, t, rfl, hoc, hdc, hvc⟩ ?_
    rw [hbind]
    refine wpAny_pure (wpAny_newFunctionEnv (fun y hy => (L.own y hy).2) (fun y hy => absurd hy (by simp)) (fun h₁ hns hsb => ⟨I1.nolimit.fresh _ hsb, ?_⟩) L.kind)
    show codeAny _ _ (.expr body (LamX.lamEnv X scope s1.heap.objs.size f c')) _ _
    have kp : ∀ b o, s1.heap.get? b = some o → h₁.get? b = some o := fun b o e => hsb.extBut b o (Nat.ne_of_lt (Heap.lt_size e)) (Heap.get?_push_of_some _ e)
    have J : Inv (LamX.lamCx X (X.A.deeper (envOfC qg sg s.heap.objs.size g cdg)) (envOfC qg sg s.heap.objs.size g cdg :: X.stack) s1 HZ E scope f c') [] σ HZ { s1 with heap := h₁, toks := s1.toks + ([] : List (Str × Value)).length } :=
      LamX.lam_start2 I L I1.env0 hr.hd un hns kp
    refine PySem.W.kla_codeExpr (wpAny_mono ((hbody E _ _ s1 HZ (hr.deeper _)).run [] _ _ HZ Q J ht) (fun v s' hq => ?_) fun e s' hq => hq)
    obtain ⟨w', H', J', rv, q⟩ := hq
    exact ⟨w', H', J'.os, J'.bare, J'.base, J'.hok, rv, q⟩
  refine wpAny_call (codeAny_mono rc fun r s' hq => ?_)
  cases r with
  | error e => exact hx pinsZ HZ s1 e s' I1 hq
  | ok fl =>
    cases fl with
    | ret u => exact I1.after hq
    | next => exact False.elim hq
    | brk => exact False.elim hq
    | cont => exact False.elim hq
end
/-! ### over data -/
/-- what may be called, without arguments: from what is wanted of an exception, what stands there, what is wanted -/
abbrev Thk := DXQ → OS → DQ → Prop
abbrev HSp := Thk → OS → DQ → DXQ → Prop
def dThk (f : Addr) (G : Hp) (th : Thk) (W : DWX) : DTE := fun ρ O Q => nth ρ 0 = some (.clo f G) ∧ th (fun x O' => W x ρ O') O Q
/-- a call of f, known at s, in whatever def that got it -/
def ActH (P : Program) (w : World) (K : PySem.W.Frag) (mg : Str → Option Value) (base : Heap) (A : Around) (outer : List Env) (s : Shared) (H : Hp) (f : Addr) (G : Hp) (k : Nat) (th : Thk) : Prop :=
  ∀ (Ng : List Str) (qg : Str) (sg : Scope) (g : Addr) (cdg : Value) (Eg : XK) (a : Str) (pn : List (Addr × Obj)) (xe : Value → Shared → Prop) (B : Bs) (W : DWX) (p1 p2 : Pos), Room (k + 1) (A.deeper (envOfC qg sg s.heap.objs.size g cdg)) → Ng[0]? = some a → Vis sg a → (a == ("__debug__" : Str)) = false → (a == ("__classdict__" : Str)) = false →
    Takes ((cxOf (CX P w) P w K mg base Ng qg sg g cdg A outer s H Eg).tr pn xe) (liftW K B W) → DE ((cxOf (CX P w) P w K mg base Ng qg sg g cdg A outer s H Eg).tr pn xe) B (.Call (.Name a p1) [] [] p2) (dThk f G th W)
structure DFnH (P : Program) (w : World) (K : PySem.W.Frag) (mg : Str → Option Value) (base : Heap) (x : Str) (hsp : HSp) : Prop where
  ex : ∃ g, mg x = some (.ref g) ∧ PySem.W.keepIn K (.ref g) = true ∧ ∀ (k : Nat) (A : Around) (outer : List Env) (s : Shared) (H : Hp) (f : Addr) (Z F : Hp) (O : OS) (th : Thk) (Qd : DQ) (Ed : DXQ) (Q : VK) (E : XK), Room (k + 2) A → Env0 P w K mg base A outer s H → ActH P w K mg base A outer s H f F k th →
    Rep K Z F H O → hsp th O Qd Ed → Conv K Z F Qd Q → ConvX K Z F Ed E → codeAny (model P w) A (.call (.ref g) ⟨[.ref f], []⟩) (CR (L2.CX P w) outer P w H s Q E) s
section
variable {P : Program} {w : World} {K : PySem.W.Frag} {mg : Str → Option Value} {base : Heap} {x qual : Str} {params : Arguments} {body : List Stmt} {scope : Scope} {g : Addr} {fd : FuncData}
theorem okH {N : List Str} {a : Str} {hsp : HSp} {t : Addr → Hp → Thk → DWX → DTS} (F : FunD K x qual params body scope [] [] g fd) (gm : mg x = some (.ref g)) (hb : Binds K fd [a] []) (S : FnScope N [a] scope)
    (hN : N[0]? = some a) (hva : Vis scope a) (hd1 : (a == ("__debug__" : Str)) = false) (hd2 : (a == ("__classdict__" : Str)) = false)
    (hd : ∀ (f : Addr) (G : Hp) (th : Thk) (cdv : Value) (A : Around) (outer : List Env) (s : Shared) (H : Hp) (E : XK) (F0 : Bs) (W : DWX), Takes (cxOf (CX P w) P w K mg base N qual scope g cdv A outer s H E) (liftW K F0 W) →
      (∀ (pn : List (Addr × Obj)) (xe : Value → Shared → Prop) (B : Bs) (W : DWX) (p1 p2 : Pos), Takes ((cxOf (CX P w) P w K mg base N qual scope g cdv A outer s H E).tr pn xe) (liftW K B W) → DE ((cxOf (CX P w) P w K mg base N qual scope g cdv A outer s H E).tr pn xe) B (.Call (.Name a p1) [] [] p2) (dThk f G th W)) →
      DSs (cxOf (CX P w) P w K mg base N qual scope g cdv A outer s H E) F0 body (t f G th W))
    (hv : ∀ f G th O Q E, hsp th O Q E → t f G th (fun x _ O => dropE E x O) ⟨fun _ O => dropQ Q .non O, dropQ Q, fun _ _ => False, fun _ _ => False⟩ (startD N [.clo f G]) O) : DFnH P w K mg base x hsp := by
  have hkp := F.kp
  obtain ⟨oc, od, dV, kV, doc, pm, an, cdv, ct, osl, rfl, lk, hcd, hD, _⟩ := F.ex
  refine ⟨g, gm, hkp, fun k A outer s H f Z F O th Qd Ed Q E hr e0 act rp h c cx => ?_⟩
  refine LamX.run_ofS (N := N) (ps := [a]) (us := [.ref f]) (vs := [.ref f]) (k := k + 1) lk hcd S hr e0 (hb s [.ref f] (e0.mod.kin.keeps fun b o e => (e0.bs b o e).1) rfl) (.cons rfl .nil) rfl fun hr' => ?_
  have tk : Takes (cxOf (CX P w) P w K mg base N qual scope g cdv A outer s H E) (fun c d _ H' => E c d H') := takes_of (E₁ := fun e' s'' => L2.CX P w outer H s E e' s'') rfl rfl rfl rfl
  refine ⟨_, hd f F th cdv A outer s H E (F, Z) (fun x _ O => dropE Ed x O) (tk.imp fun c d σ H' q => ?_) (fun pn xe B W p1 p2 tk2 => act N qual scope g cdv E a pn xe B W p1 p2 hr' hN hva hd1 hd2 tk2), lift_body (Qd := dropQ Qd) rp (Iss.cons (show Is K F (.clo f F) (.ref f) by simp only [Is, true_and]; exact fun _ _ q => q) Iss.nil) (hv f F th O Qd Ed h) (fun d O' F' H' v r' e i q => ?_)⟩
  · obtain ⟨Z', ρ, O', F', x, at_, ix, hx⟩ := q
    have e : Z' = Z := at_.zz
    subst e
    obtain ⟨O2, sb, hx⟩ := hx
    exact cx _ _ _ _ _ _ (at_.rep.drop sb) at_.ext ix hx
  · obtain ⟨O2, sb, q⟩ := q
    exact c _ _ _ _ _ (r'.drop sb) e i q
end
def dLam (P : Addr) (q : Str) (hsp : HSp) (W : DWX) (tb : DWX → DTE) : DTE := fun ρ O Q => O P = some (.tab q) ∧ hsp (fun E O' Q' => tb (fun x _ O'' => E x O'') ρ O' Q') O Q fun x O' => W x ρ O'
section
variable {X : Cx} {F0 : Bs} {c P : Addr} {k : Nat} {x : Str} {hsp : HSp} {W : DWX} {tb : DWX → DTE} {params : Arguments} {body : Expr} {scope : Scope} {p lpos pos : Pos}
theorem rep_made {K : PySem.W.Frag} {Z F H H1 : Hp} {O : OS} {ps : Array Value} {q : Str} {c' : Addr} (r : Rep K Z F H O) (hO : O P = some (.tab q)) (hP : H P = some (.tbl ps))
    (h : (H1 = H ∧ H c' = some (LamX.CodeO c' q) ∧ F c' = some (LamX.CodeO c' q)) ∨ ∃ more : Array Value, H1 = upd (upd H P (.tbl (ps ++ more))) c' (LamX.CodeO c' q) ∧ H c' = none ∧ TriplesOk (ps ++ more).toList ∧ ∀ (pos : Pos) (cv : Value), codeAmong pos (ps ++ more).toList = some cv → codeAmong pos ps.toList = some cv ∨ cv = .ref c') : ∃ F1, Rep K Z F1 H1 O ∧ Ext F F1 ∧ F1 c' = some (LamX.CodeO c' q) := by
  rcases h with ⟨rfl, _, h2⟩ | ⟨more, rfl, h2, h3, h4⟩
  · exact ⟨F, r, Ext.refl, h2⟩
  · obtain ⟨hFP, o, eo, ps', e1, h5, h6⟩ := r.own P _ hO
    rw [hP] at eo
    cases eo
    cases e1
    have nc : c' ≠ P := fun z => by rw [z, hP] at h2; cases h2
    obtain ⟨r2, e2⟩ := r.newF (o := LamX.CodeO c' q) h2
    have w : Own K (upd F c' (LamX.CodeO c' q)) (.tab q) (.tbl (ps ++ more)) := ⟨_, rfl, h3, fun pos cv hcv => by
      rcases h4 pos cv hcv with z | z
      · obtain ⟨c0, e3, e4⟩ := h6 pos cv z
        exact ⟨c0, e3, e2 _ _ e4⟩
      · exact ⟨c', z, upd_same⟩⟩
    have r3 := r2.chg (o := .tbl (ps ++ more)) hO w
    refine ⟨_, ?_, e2, upd_same⟩
    have eO : oput O P (.tab q) = O := by
      funext a
      by_cases z : a = P
      · rw [z, oput_same, hO]
      · rw [oput_ne z]
    rw [eO] at r3
    have eH : upd (upd H c' (LamX.CodeO c' q)) P (.tbl (ps ++ more)) = upd (upd H P (.tbl (ps ++ more))) c' (LamX.CodeO c' q) := by
      funext a
      unfold upd
      by_cases z : a = P
      · rw [if_pos z, if_neg (show ¬ a = c' from fun y => nc (y.symm.trans z)), if_pos z]
      · rw [if_neg z, if_neg z]
    rw [eH] at r3
    exact r3
def lamQ (n : Str) : Str := n ++ ".<locals>." ++ "<lambda>"
theorem de_lam {q0 : Str} (FH : DFnH X.prog X.w X.K X.mg X.base x hsp) (TB : LamX.TabB X.base X.mg c P) (hcode : X.env.code = .ref c) (hr : Room (k + 2) X.A) (hp : PassD X F0 W) (hg : Gl X x) (L : LamX.LamS X.env.scope scope) (hdef : defaultsOf params X.env = ([], []))
    (hbind : ∀ (q : Str) (cl : List (Str × Addr)) (pm cv ctv : Value), bindArgs (PySem.W.kla_fn "<lambda>" q params body scope cl pm cv ctv) ⟨[], []⟩ = pure [])
    (hbody : ∀ (A : Around) (outer : List Env) (s : Shared) (H : Hp) (E : XK) (f c' : Addr) (B : Bs) (W : DWX), Takes (LamX.lamCx X A outer s H E scope f c') (liftW X.K B W) → Room k (A.deeper (LamX.lamEnv X scope s.heap.objs.size f c')) → DE (LamX.lamCx X A outer s H E scope f c') B body (tb W))
    (hq : X.env.qual ++ "<lambda>" = q0 := by rfl) (hdb : (x == ("__debug__" : Str)) = false := by decide) :
    DE X F0 (.Call (.Name x p) [.Lambda params body scope lpos] [] pos) (dLam P q0 hsp W tb) := by
  subst hq
  obtain ⟨g, hm, hk, FR⟩ := FH.ex
  refine ⟨fun pins s σ H Q I h => ?_⟩
  obtain ⟨Z, ρ, O, F, Qd, at_, ⟨hO, h⟩, cv⟩ := h
  refine wpAny_Call_Name_kw (ld_glob I hg hm ?_ hdb)
  refine PySem.W.callWith_K (h₀ := X.base) I.ok.mod.kin hk ?_ (by rfl) (by rfl)
  show wpAny _ _ (spliced ((false, eval (.Lambda params body scope lpos) X.env) :: backTo pos (starEach [] X.env))) _ _ s
  obtain ⟨_, o, hP, ps, rfl, ht, ha⟩ := at_.rep.own P _ hO
  refine Calls.spliced_cons (lam_make3 (R := fun c => F c = some (LamX.CodeO c (X.env.qual ++ "<lambda>"))) I TB hcode hP ht (fun pos cv hc => let ⟨c, e1, e2⟩ := ha pos cv hc; ⟨c, e1, at_.rep.sub _ _ e2, e2⟩) hdef (L.has I.ok) fun f c' pm' ctv H1 s' I1 hH hf hfn hfr => ?_)
  refine Calls.spliced_nil ⟨I1.kIn, ?_⟩
  obtain ⟨F1, r1, e1, hco⟩ := rep_made at_.rep hO hP hH
  have act : ActH X.prog X.w X.K X.mg X.base X.A X.stack s' H1 f F1 k (fun E O' Q' => tb (fun x _ O'' => E x O'') ρ O' Q') := by
    intro Ng qg sg g' cdg Eg a pn xe B W2 p1 p2 hr2 hN hva hd1 hd2 tk2
    refine PE.imp (pe_act2 (tb := fun E σ HZ Q => ∃ (B : Bs) (Wd : DWX), (∀ c d σ' H', liftW X.K B Wd c d σ' H' → E c d H') ∧ liftE X.K B (tb Wd) σ HZ Q) I1 L hf hfn hfr (hbind _ _ _ _ _) hr2 (fun E A outer s H hr3 => ⟨fun pins s2 σ2 H2 Q2 I2 ⟨B, Wd, imp, w⟩ => ?_⟩) hN hva hd1 hd2) fun σZ HZ QZ hz => ?_
    · have tk : Takes (LamX.lamCx X A outer s H E scope f c') (fun c d _ H' => E c d H') := takes_of (E₁ := fun e' s'' => L2.CX X.prog X.w outer H s E e' s'') rfl rfl rfl rfl
      exact (hbody A outer s H E f c' B Wd (tk.imp fun c d σ' H' q => imp c d σ' H' q) hr3).run pins s2 σ2 H2 Q2 I2 w
    · obtain ⟨Z', ρZ, OZ, FZ, QdZ, atZ, ⟨hn, hth⟩, cvZ⟩ := hz
      obtain ⟨v, h1, h2⟩ := atZ.env.at_ 0 _ hn
      simp only [Is] at h2
      obtain ⟨rfl, ex⟩ := h2
      refine ⟨h1, atZ.rep.sub _ _ (ex _ _ hco), WE (liftW X.K B W2) σZ, passAt tk2 σZ, (FZ, Z'), fun x _ O => W2 x ρZ O, fun c d σ' H' q => ?_, Z', ρ, OZ, FZ, QdZ, ⟨rfl, Ext.refl, at_.env.ext (e1.trans ex), atZ.rep⟩, hth, cvZ⟩
      obtain ⟨Z2, ρ', O', F', x, a', ix, hx⟩ := q
      have ez : Z2 = Z' := a'.zz
      subst ez
      exact ⟨_, ρZ, O', F', x, atZ.step a'.rep a'.ext, ix, hx⟩
  refine wpAny_call (codeAny_mono (FR k X.A X.stack s' H1 f Z F1 O _ Qd (fun x O' => W x ρ O') Q (WE (liftW X.K F0 W) σ) hr I1.env0 act r1 h (cv.ext e1) fun x O' F' H' c d r' e' ix hx => ⟨_, ρ, O', F', x, at_.step r' (e1.trans e'), ix, hx⟩) fun r s2 hq => ?_)
  cases r with
  | error e => exact hp σ pins H1 s' e s2 I1 hq
  | ok fl =>
    cases fl with
    | ret u => exact I1.after hq
    | next => exact False.elim hq
    | brk => exact False.elim hq
    | cont => exact False.elim hq
end
end DS

namespace DS
open PySem PySem.Spec PyProof.Rows L2
/-! ### several except clauses -/
def exK (K : PySem.W.Frag) (C : Addr) : DX → Option Bool := fun x => PySem.W.exmOne K x.cls (.ref C)
def hdQ (Wout : DWX) (D : DEnds) : List ((DX → Option Bool) × DTS) → DWX
  | [] => Wout
  | (ex, ts) :: r => fun x ρ O => match ex x with
    | some true => ts D ρ O
    | some false => hdQ Wout D r x ρ O
    | none => False
def sTryM (l : List ((DX → Option Bool) × DTS)) (Wout : DWX) (tb : DWX → DTS) : DTS := fun D ρ O => tb (hdQ Wout D l) D ρ O
inductive DHds (X : Cx) (F0 : Bs) : List ExceptHandler → List Value → List ((DX → Option Bool) × DTS) → Prop
  | nil : DHds X F0 [] [] []
  | cons {x : Str} {c : Value} {ex : DX → Option Bool} {ts : DTS} {b₀ : Stmt} {suite : List Stmt} {np pos' : Pos} {hds : List ExceptHandler} {cs : List Value} {l : List ((DX → Option Bool) × DTS)} (hc : Names X x c) (hex : ∀ x b, ex x = some b → PySem.W.exmOne X.K x.cls c = some b)
      (hsu : ∀ (a : Addr) (oe : Obj) (cls : Value) (d : Option Addr) (pn : List (Addr × Obj)), Zc cls d oe → (∃ vs, oe.data = .fields vs) → DSs (X.suite a ((a, oe) :: pn)) F0 (b₀ :: suite) ts) (r : DHds X F0 hds cs l) :
      DHds X F0 (.ExceptHandler (some (.Name x np)) none (b₀ :: suite) pos' :: hds) (c :: cs) ((ex, ts) :: l)
section
variable {X : Cx} {F0 : Bs} {W Wout : DWX} {pos : Pos} {c : Value} {body : List Stmt} {tb : DWX → DTS} {h₀ : ExceptHandler} {hds : List ExceptHandler} {cs : List Value} {l : List ((DX → Option Bool) × DTS)}
theorem DHds.ok : ∀ {hds : List ExceptHandler} {cs : List Value} {l : List ((DX → Option Bool) × DTS)}, DHds X F0 hds cs l → HdsOk X hds ((cs.zip l).map fun p => (p.1, fun _ _ _ => liftS X.K F0 p.2.2))
  | _, _, _, .nil => .nil
  | _, _, _, .cons hc hex hsu r => .cons hc hsu r.ok
theorem DHds.wish {Z F : Hp} {Dd : DEnds} {D : Ends} (cv : ConvS X.K F0 Z F Dd D) : ∀ {hds : List ExceptHandler} {cs : List Value} {l : List ((DX → Option Bool) × DTS)}, DHds X F0 hds cs l → ∀ (x : DX) (d : Option Addr) (σ' : L2.St) (H' : Hp) (ρ' : Env') (O' : OS) (F' : Hp), Ext F F' → At X.K F0 Z σ' H' ρ' O' F' → IsX X.K F' x x.cls d → hdQ Wout Dd l x ρ' O' →
    wMany X.K (liftW X.K F0 Wout) D ((cs.zip l).map fun p => (p.1, fun _ _ _ => liftS X.K F0 p.2.2)) x.cls d σ' H'
  | _, _, _, .nil, x, d, σ', H', ρ', O', F', e, a, ix, q => ⟨Z, ρ', O', F', x, a, ix, q⟩
  | _, _, _, .cons (ex := ex) hc hex hsu r, x, d, σ', H', ρ', O', F', e, a, ix, q => by
    unfold hdQ at q
    split at q
    · rename_i eb
      exact ⟨true, hex _ _ eb, fun _ b hb => ⟨Z, ρ', O', F', Dd, a, q, cv.ext e⟩, fun z => by cases z⟩
    · rename_i eb
      exact ⟨false, hex _ _ eb, fun z => (by cases z), fun _ => DHds.wish cv r x d σ' H' ρ' O' F' e a ix q⟩
    · exact q.elim
theorem ds_tryM (hs : X.stack = X.env :: X.outer) (hf : X.env.frame = some X.env.locals) (tk : Takes X (liftW X.K F0 Wout))
    (hb : ∀ (W : DWX) (B : Bs) (pn : List (Addr × Obj)) (xe : Value → Shared → Prop), Takes (X.tr pn xe) (liftW X.K B W) → PassesOwn (model X.prog X.w) X.A X.env xe → DSs (X.tr pn xe) B body (tb W))
    (hh : DHds X F0 (h₀ :: hds) cs l) : DSt X F0 (.Try body (h₀ :: hds) [] [] pos) (sTryM l Wout tb) := by
  refine PS.imp (ps_try_many (tb := fun W D σ H => ∃ B Wd, (∀ c d σ H, liftW X.K B Wd c d σ H → W c d σ H) ∧ liftS X.K B (tb Wd) D σ H) hs hf tk
    (fun W pn xe tk' hp => ⟨fun pins s σ H D I ⟨B, Wd, i, w⟩ => (hb Wd B pn xe (tk'.imp i) hp).run pins s σ H D I w⟩) hh.ok) fun D σ H h => ?_
  obtain ⟨Z, ρ, O, F, Dd, at_, h, cv⟩ := h
  refine ⟨(F, Z), _, fun c' d σ' H' q => ?_, _, ρ, O, F, Dd, ⟨rfl, Ext.refl, at_.env, at_.rep⟩, h, cv.base at_.ext at_.zz⟩
  obtain ⟨Z', ρ', O', F', x', a', ix, q⟩ := q
  have hcl := ix.cls
  subst hcl
  have ez : Z' = Z := a'.zz
  subst ez
  exact DHds.wish cv hh x' d σ' H' ρ' O' F' a'.ext ⟨at_.zz, at_.ext.trans a'.ext, a'.env, a'.rep⟩ ix q
theorem exK_ok {K : PySem.W.Frag} {C : Addr} : ∀ x b, exK K C x = some b → PySem.W.exmOne K x.cls (.ref C) = some b := fun _ _ h => h
theorem w_tryM {D' : DEnds} {ρ : Env'} {O : OS} (q : tb (hdQ Wout D' l) D' ρ O) : sTryM l Wout tb D' ρ O := q
theorem hd_yes {D' : DEnds} {ρ : Env'} {O : OS} {ex : DX → Option Bool} {ts : DTS} {x : DX} (h : ex x = some true) (q : ts D' ρ O) : hdQ Wout D' ((ex, ts) :: l) x ρ O := by unfold hdQ; rw [h]; exact q
theorem hd_no {D' : DEnds} {ρ : Env'} {O : OS} {ex : DX → Option Bool} {ts : DTS} {x : DX} (h : ex x = some false) (q : hdQ Wout D' l x ρ O) : hdQ Wout D' ((ex, ts) :: l) x ρ O := by unfold hdQ; rw [h]; exact q
end
/-! ### a def that makes lambdas -/
section
variable {P : Program} {w : World} {K : PySem.W.Frag} {mg : Str → Option Value} {base : Heap} {x qual : Str} {params : Arguments} {body : List Stmt} {scope : Scope} {dvs : List V} {kws : List (Str × V)} {f : Addr} {fd : FuncData}
theorem okDGL {N ps : List Str} {k : Nat} {sp : DSp} {t : DWX → DTS} (pn : He.Defn) (hf : f = He.fAd K pn) (F : FunD K x qual params body scope dvs kws f fd) (S : FnScope N ps scope) (len : ∀ ds O Q E, sp ds O Q E → ds.length = ps.length)
    (hd : ∀ (cdv : Value) (A : Around) (outer : List Env) (s : Shared) (H : Hp) (E : XK) (F0 : Bs) (W : DWX), Takes (cxOf (CX P w) P w K mg base N qual scope f cdv A outer s H E) (liftW K F0 W) → Room k (A.deeper (envOfC qual scope s.heap.objs.size f cdv)) → A.guards = some [] → cdv = .ref (He.cT K pn).1 →
      DSs (cxOf (CX P w) P w K mg base N qual scope f cdv A outer s H E) F0 body (t W))
    (hv : ∀ ds O Q E, sp ds O Q E → t (fun x _ O => dropE E x O) ⟨fun _ O => dropQ Q .non O, dropQ Q, fun _ _ => False, fun _ _ => False⟩ (startD N ds) O) : FnOkG P w K mg base (CX P w) (k + 1) f fd ps (liftF K sp) := by
  obtain ⟨oc, od, dV, kV, doc, pm, an, cdv, ct, osl, rfl, lk, hcd, _, _⟩ := F.ex
  have hc : cdv = .ref (He.cT K pn).1 := by
    obtain ⟨c, rfl⟩ := He.codeIn_ref hcd
    subst hf
    rw [show (He.cT K pn).1 = He.codeOf K pn from rfl, He.codeOf_eq lk rfl]
  have G : FnOkG P w K mg base (CX P w) (k + 1) f (PySem.W.fnOf x qual params body scope dV kV doc pm an cdv ct) ps (liftF K (sp2 sp)) := by
    refine fn_ofG lk hcd S (fun vs H Q E h => ?_) (fun A outer s H vs Q E hgd hr h => ?_)
    · obtain ⟨Z, ds, O, F, Qd, Ed, _, is, ⟨_, _, h, _⟩, _, _⟩ := h
      rw [← is.len]; exact len _ _ _ _ h
    · obtain ⟨Z, ds, O, F0, Qd, Ed, r, is, ⟨Q0, E0, h, e1, e2⟩, c, cx⟩ := h
      subst e1 e2
      have tk : Takes (cxOf (CX P w) P w K mg base N qual scope f cdv A outer s H E) (fun c d _ H' => E c d H') := takes_of (E₁ := fun e' s'' => L2.CX P w outer H s E e' s'') rfl rfl rfl rfl
      refine ⟨_, hd cdv A outer s H E (F0, Z) (fun x _ O => dropE E0 x O) (tk.imp fun c d σ H' q => ?_) hr hgd hc, lift_body r is (hv _ _ _ _ h) c⟩
      obtain ⟨Z', ρ, O', F', x, a, ix, hx⟩ := q
      have e : Z' = Z := a.zz
      subst e
      exact cx _ _ _ _ _ _ a.rep a.ext ix hx
  exact ⟨fun vs H Q E h => G.len vs H Q E (liftF_drop vs H Q E h), fun A outer s H args us vs Q E hg hr e0 hb r h => G.run A outer s H args us vs Q E hg hr e0 hb r (liftF_drop vs H Q E h)⟩
end
/-! ### the end, with tables and what is being shown -/
/-- what is tracked is a list, or an empty table -/
def Veil (H : Hp) (h : Heap) : Prop := ∀ b o, h.get? b = some o → H b ≠ none → (∃ xs n, o.data = .seq xs n) ∨ o.data = .fields #[]
section
variable {H : Hp} {h : Heap}
theorem Veil.see (v : Veil H h) {b : Addr} {o : Obj} (e : h.get? b = some o) (n1 : ∀ xs n, o.data ≠ .seq xs n) (n2 : o.data ≠ .fields #[]) : (hidT h H).get? b = some o :=
  hidT_get e (Classical.byContradiction fun z => (v b o e z).elim (fun ⟨xs, n, q⟩ => n1 xs n q) n2)
theorem Veil.ns (v : Veil H h) {b : Addr} {m : Str → Option Value} (x : h.Ns b m) : (hidT h H).Ns b m := by
  obtain ⟨o, es, ep, e, d, r⟩ := x
  refine ⟨o, es, ep, v.see e (fun xs n z => ?_) (fun z => ?_), d, r⟩ <;> (rw [d] at z; cases z)
theorem Veil.head (v : Veil H h) {c P : Addr} (x : PySem.W.CodeHd h c P) : PySem.W.CodeHd (hidT h H) c P := by
  obtain ⟨o, us, y⟩ := x
  obtain ⟨f1, f2, f3, f4, f5, f6, f7, e, f8, d, i11, f9⟩ := y
  refine ⟨o, us, f1, f2, f3, f4, f5, f6, f7, v.see e (fun xs n z => ?_) (fun z => ?_), f8, d, i11, f9⟩
  · rw [d] at z; cases z
  · rw [d] at z
    cases z
    simp at i11
end
theorem law_callTG {P : Program} {w : World} {K : PySem.W.Frag} {mg mb : Str → Option Value} {CX' : CXT} {k : Nat} {fa a : Addr} {cs : List (Addr × Addr)} {fd : FuncData} {x : Str} {sp : Sp} {s₁ : Shared} {vs : List Value} {ns : List Int}
    (KX : K.In s₁.heap) (hns : s₁.heap.Ns mainGlobals mg) (hb : s₁.heap.Ns builtinsNs mb) (hbb : ∀ x : Str, x ≠ "__name__" → mb x = bootBuiltins x) (hlim : s₁.heap.NoLimit) (hg : s₁.gens = #[])
    (hT : ∀ p ∈ cs, s₁.heap.get? p.2 = some { cls := .none, data := .fields #[] }) (nT : ∀ p ∈ cs, K.lookup p.2 = none) (C : ∀ p ∈ cs, PySem.W.CodeHd s₁.heap p.1 p.2)
    (hbm : ∃ (bm : Addr) (ob : Obj), mg "__builtins__" = some (.ref bm) ∧ bm ≠ builtinsNs ∧ s₁.heap.get? bm = some ob ∧ ob.cls = .type "module" ∧ ob.dict = some builtinsNs ∧ ob.data = .plain)
    (ha : s₁.heap.get? a = some { cls := .type "list", data := .seq vs.toArray }) (hi : IntsAre vs ns) (hl : ns.length ≤ sizeLine) (hr : Room k callerA)
    (F : ∀ base : Heap, K.In base → base.Ns mainGlobals mg → (∀ p ∈ cs, LamX.TabB base mg p.1 p.2) → FnOkG P w K mg base CX' k fa fd [x] sp) (hbind : ∀ (s : Shared) (u : Value), BindsTo s fd ⟨[u], []⟩ [(x, u)])
    (hsp : ∀ H : Hp, (∀ p ∈ cs, H p.2 = some (.tbl #[])) → SqL K H a (ns.map V.int) → sp [.ref a] H (fun v _ => v = .bl true) fun _ _ _ => False)
    (hCX : ∀ (H : Hp) (e : Value) (s' : Shared), CX' [] H s₁ (fun _ _ _ => False) e s' → False) :
    codeAny (model P w) callerA (.call (.ref fa) ⟨[.ref a], []⟩) (fun r s' => r = .ok (.ret (.bool true)) ∧ OldK s₁.heap s'.heap ∧ s'.os = s₁.os ∧ AllBare s'.gens) s₁ := by
  classical
  obtain ⟨lst, hlst⟩ : ∃ lst : HO, lst = .frz { cls := .type "list", data := .seq vs.toArray } (.lst (ns.map V.int)) := ⟨_, rfl⟩
  let tb : Addr → Prop := fun b => ∃ p ∈ cs, p.2 = b
  have atT : ∀ b, tb b → s₁.heap.get? b = some { cls := .none, data := .fields #[] } := fun b ⟨p, hp, e⟩ => e ▸ hT p hp
  have aT : ¬ tb a := fun z => by
    have q := atT a z
    rw [ha] at q
    exact nomatch congrArg (fun o : Option Obj => o.map (·.data)) q
  -- what is tracked
  obtain ⟨H, hH⟩ : ∃ H : Hp, H = fun b => if tb b then some (.tbl #[]) else if b = a ∧ K.lookup a = none then some lst else none := ⟨_, rfl⟩
  have Htb : ∀ b, tb b → H b = some (.tbl #[]) := fun b z => by rw [hH]; exact if_pos z
  have Hout : ∀ b u, H b = some u → (tb b ∧ u = .tbl #[]) ∨ (b = a ∧ K.lookup a = none ∧ u = lst) := fun b u e => by
    rw [hH] at e
    have e : (if tb b then some (HO.tbl #[]) else if b = a ∧ K.lookup a = none then some lst else none) = some u := e
    split at e
    · rename_i z; cases e; exact .inl ⟨z, rfl⟩
    · split at e
      · rename_i z; cases e; exact .inr ⟨z.1, z.2, rfl⟩
      · cases e
  have Hsome : ∀ {b}, H b ≠ none → ∃ u, H b = some u := fun {b} z => by
    cases q : H b with
    | none => exact absurd q z
    | some u => exact ⟨u, rfl⟩
  have veil : Veil H s₁.heap := fun b o e z => by
    obtain ⟨u, q⟩ := Hsome z
    rcases Hout b u q with ⟨t, _⟩ | ⟨rfl, _, _⟩
    · rw [atT b t] at e; cases e; exact .inr rfl
    · rw [ha] at e; cases e; exact .inl ⟨_, _, rfl⟩
  have Kb : K.In (hidT s₁.heap H) := fun b o e => hidT_get (KX b o e) (by
    refine Classical.byContradiction fun z => ?_
    obtain ⟨u, q⟩ := Hsome z
    rcases Hout b u q with ⟨⟨p, hp, t⟩, _⟩ | ⟨rfl, n, _⟩
    · rw [← t, nT p hp] at e; cases e
    · rw [n] at e; cases e)
  have sees : SqL K H a (ns.map V.int) := by
    cases hk : K.lookup a with
    | none => exact .inl (.inr ⟨_, by rw [hH]; exact (if_neg aT).trans ((if_pos ⟨rfl, hk⟩).trans (congrArg some hlst))⟩)
    | some o =>
      have e := KX a o hk
      rw [ha] at e
      cases e
      exact .inr ⟨_, vs.toArray, 0, hk, rfl, rfl, rfl, by rw [List.size_toArray, hi.length]; exact hl, vals_ints hi⟩
  have hok : HOk P w H s₁.heap := fun b u q => by
    rcases Hout b u q with ⟨t, rfl⟩ | ⟨rfl, _, rfl⟩
    · exact atT b t
    · subst hlst
      exact ⟨ha, by rw [List.length_map]; exact hl, vs, 0, vals_ints hi, ha⟩
  have mod : Mod K mg (hidT s₁.heap H) := ⟨Kb, veil.ns hns, ⟨mb, veil.ns hb, hbb⟩, hlim.imp fun m z => ⟨veil.ns z.1, z.2⟩⟩
  have tabs : ∀ p ∈ cs, LamX.TabB (hidT s₁.heap H) mg p.1 p.2 := fun p hp => by
    obtain ⟨bm, ob, b1, b2, b3, b4, b5, b6⟩ := hbm
    obtain ⟨og, es, ep, eg, dg, _⟩ := hns
    refine ⟨veil.head (C p hp), ⟨bm, ob, b1, b2, fun q => ?_, fun q => ?_, veil.see b3 (fun xs n z => ?_) (fun z => ?_), b4, b5, b6⟩, fun z => ?_⟩
    · rw [q, eg] at b3; cases b3; rw [dg] at b6; cases b6
    · rw [q, hT p hp] at b3; cases b3; cases b6
    · rw [b6] at z; cases z
    · rw [b6] at z; cases z
    · rw [z, hT p hp] at eg; cases eg; cases dg
  have e0 : Env0 P w K mg (hidT s₁.heap H) callerA [] s₁ H := ⟨rfl, mod, fun _ _ e => of_hidT e, Nat.le_of_eq (hidT_size _ _), trivial, fun b z => absurd (show b ∈ ([] : List Addr) from z) (List.not_mem_nil), hok, AllBare.of_eq hg⟩
  have run := (F _ Kb (veil.ns hns) tabs).run callerA [] s₁ H ⟨[.ref a], []⟩ [.ref a] [.ref a] _ _ rfl hr e0 (hbind s₁ (.ref a)) (.cons rfl .nil) (hsp H (fun p hp => Htb _ ⟨p, hp, rfl⟩) sees)
  refine codeAny_mono run fun r s' z => ?_
  match r, z with
  | .error e, z => exact (hCX H e s' z).elim
  | .ok (.ret u), ⟨v, H', os, bare, un, hok', rel, q⟩ =>
    have q : v = .bl true := q
    subst q
    obtain rfl : u = Value.bool true := rel
    -- an old object: as it was, or a table that has grown
    have fate : ∀ b o, s₁.heap.get? b = some o → s'.heap.get? b = some o ∨ (tb b ∧ ∃ more : Array Value, s'.heap.get? b = some { cls := .none, data := .fields more }) := fun b o e => by
      cases q : H b with
      | none => exact .inl (un.keep b o e q (fun z => absurd (show b ∈ ([] : List Addr) from z) List.not_mem_nil) List.not_mem_nil)
      | some u =>
        rcases Hout b u q with ⟨t, rfl⟩ | ⟨rfl, _, rfl⟩
        · obtain ⟨more, z⟩ := un.tbls b #[] q
          exact .inr ⟨t, _, hok' b _ z⟩
        · subst hlst
          have z := (hok' b _ (un.frzs b _ _ q)).1
          rw [ha] at e
          cases e
          exact .inl z
    refine ⟨rfl, ⟨fun b o e => ?_, fun b o e => ?_⟩, os, bare⟩
    · rcases fate b o e with z | ⟨⟨p, hp, rfl⟩, more, z⟩
      · exact .inl z
      · rw [hT p hp] at e
        cases e
        exact .inr (.inl ⟨((C p hp).tab (hT p hp)).isCodeTable, rfl, #[], more, rfl, by rw [Array.empty_append]; exact z⟩)
    · rcases fate b o e with z | ⟨_, more, z⟩
      · exact ⟨o, z⟩
      · exact ⟨_, z⟩
  | .ok .next, z => exact False.elim z
  | .ok .brk, z => exact False.elim z
  | .ok .cont, z => exact False.elim z
def LawAtGT (l : PySem.W.OpenLaw) (w : World) (K : PySem.W.Frag) (CX : CXT) (k n : Nat) (x : Str) (mg : Str → Option Value) (fa : Addr) (h : Heap) : Prop :=
  ∃ (fd : FuncData) (cs : List (Addr × Addr)) (sp : Sp), (∀ p ∈ cs, h.get? p.2 = some { cls := .none, data := .fields #[] }) ∧ (∀ p ∈ cs, K.lookup p.2 = none) ∧ (∀ p ∈ cs, PySem.W.CodeHd h p.1 p.2) ∧ (∀ (s : Shared) (u : Value), BindsTo s fd ⟨[u], []⟩ [(x, u)]) ∧
    (∀ (H : Hp) (a : Addr) (ns : List Int), ns.length ≤ n → (∀ p ∈ cs, H p.2 = some (.tbl #[])) → SqL K H a (ns.map V.int) → sp [.ref a] H (fun v _ => v = .bl true) fun _ _ _ => False) ∧
    ∀ base : Heap, K.In base → base.Ns mainGlobals mg → (∀ p ∈ cs, LamX.TabB base mg p.1 p.2) → FnOkG l.prog w K mg base CX k fa fd [x] sp
theorem walk_ofGT {l : PySem.W.OpenLaw} {n k : Nat} {q : Program} {loose : List Str} {XP : (Str → Option Value) → Heap → Prop} {YP : World → Heap → Prop} {d : DefRec} {CX : World → CXT} {x : Str}
    (hn : l.most = some n) (hn2 : n ≤ sizeLine) (hdf : d.params.defaults = []) (hr : Room k callerA)
    (F : ∀ (w : World) (mg : Str → Option Value) (fa : Addr) (h : Heap), YP w h → h.Ns mainGlobals mg → mg d.name = some (.ref fa) → ∃ K : PySem.W.Frag, K.In h ∧ LawAtGT l w K (CX w) k n x mg fa h)
    (hCX : ∀ (w : World) (H : Hp) (s : Shared) (e : Value) (s' : Shared), CX w [] H s (fun _ _ _ => False) e s' → False) :
    PySem.W.WalkO q loose XP YP l.row.toRowW d [] (fun f vs => PySem.call f vs) := by
  refine Att.attach_callB hn hdf fun w s₀ s₁ mg mb fa o pm cd doc a vs ns G Y ho hd hcd hmg hobj hints hlen hbits hg => ?_
  obtain ⟨K, KX, fd, cs, sp, hT, nT, C, hb, hsp, hF⟩ := F w mg fa _ Y G.T.g hmg
  exact law_callTG KX G.T.g G.T.b G.T.builtins G.T.nolimit hg hT nT C G.T.bmain hobj hints (Nat.le_trans hlen hn2) hr hF hb (fun H hH hS => hsp H a ns hlen hH hS) fun H e s' => hCX w H s₁ e s'
end DS

namespace DS
open PySem PySem.Spec PyProof.Rows L2
/-! ### what is there before a law runs: its tables, empty -/
def tabO (ts : List (Addr × Str)) : OS := fun b => (ts.lookup b).map D.tab
def hideT (ts : List (Addr × Str)) (H : Hp) : Hp := fun b => if (ts.lookup b).isSome then none else H b
theorem lookup_in {ts : List (Addr × Str)} {b : Addr} {q : Str} (h : ts.lookup b = some q) : (b, q) ∈ ts := by
  induction ts with
  | nil => cases h
  | cons p ts ih =>
    obtain ⟨a, r⟩ := p
    rw [List.lookup_cons] at h
    by_cases e : b = a
    · subst e
      simp at h
      subst h
      exact List.mem_cons_self
    · have : (b == a) = false := by simpa using e
      rw [this] at h
      exact List.mem_cons_of_mem _ (ih h)
section
variable {K : PySem.W.Frag} {H : Hp} {ts : List (Addr × Str)}
theorem start_tabs (h : ∀ p ∈ ts, H p.1 = some (.tbl #[])) : Rep K (fun _ => none) (hideT ts H) H (tabO ts) := by
  refine ⟨fun b o e => ?_, fun _ _ z => (by cases z), fun b d e => ?_⟩
  · unfold hideT at e
    split at e
    · cases e
    · exact e
  · unfold tabO at e
    cases hq : ts.lookup b with
    | none => rw [hq] at e; cases e
    | some q =>
      rw [hq] at e
      cases e
      have hm := h _ (lookup_in hq)
      refine ⟨?_, .tbl #[], hm, ⟨#[], rfl, ?_, fun pos cv hc => ?_⟩⟩
      · unfold hideT; rw [hq]; rfl
      · exact True.intro
      · cases hc
theorem hide_sql {a : Addr} {xs : List V} (h : ∀ p ∈ ts, H p.1 = some (.tbl #[])) (hS : SqL K H a xs) : SqL K (hideT ts H) a xs := by
  rcases hS with hS | hS
  · have hn : ts.lookup a = none := by
      cases hq : ts.lookup a with
      | none => rfl
      | some q =>
        have hm := h _ (lookup_in hq)
        have hm : H a = some (.tbl #[]) := hm
        unfold Rd at hS
        rw [hm] at hS
        rcases hS with z | ⟨o, z⟩ <;> cases z
    refine .inl ?_
    have e : hideT ts H a = H a := by unfold hideT; rw [hn]; rfl
    unfold Rd at hS ⊢
    rw [e]
    exact hS
  · exact .inr hS
end
end DS

namespace DS
open PySem PySem.Spec PyProof.Rows L2
def nmD : D → Bool
  | .str cs => isNm cs
  | _ => false
theorem nmD_elim {d : D} (h : nmD d = true) : ∃ n, d = .str n ∧ isNm n = true := by
  cases d with
  | str n => exact ⟨n, rfl, h⟩
  | _ => cases h
theorem nmD_no {d : D} (h : isStrD d = false) : nmD d = false := by
  cases d with
  | str n => cases h
  | _ => rfl
theorem toTrm_no {d : D} (h : isTupD d = false) : toTrm d = none := by
  cases d with
  | tup n => cases h
  | _ => simp [toTrm]
theorem toTrm_bad {x : D} {xs : List D} (h : nmD x = false) : toTrm (.tup (x :: xs)) = none := by
  cases e : toTrm (.tup (x :: xs)) with
  | none => rfl
  | some t =>
    obtain ⟨h1, h2⟩ := toTrm_is _ _ e
    cases t with
    | mk n ps =>
      rw [tD] at h1
      cases h1
      rw [Trm.ok, Bool.and_eq_true, Bool.and_eq_true] at h2
      rw [show nmD (.str n) = isNm n from rfl, h2.1.1] at h
      cases h
theorem toTrm_long {xs : List D} (h : ¬ xs.length ≤ 4) : toTrm (.tup xs) = none := by
  cases e : toTrm (.tup xs) with
  | none => rfl
  | some t =>
    obtain ⟨h1, h2⟩ := toTrm_is _ _ e
    cases t with
    | mk n ps =>
      rw [tD] at h1
      cases h1
      rw [Trm.ok, Bool.and_eq_true, Bool.and_eq_true, decide_eq_true_eq] at h2
      exact absurd (by rw [List.length_cons, tDs_len]; omega) h
theorem toTrm_cons {n : List Nat} {xs : List D} (h : isNm n = true) (h2 : xs.length ≤ 3) : (toTrm (.tup (.str n :: xs))).isSome = xs.all fun d => (toTrm d).isSome := by
  rw [← toTrms_some, toTrm]
  cases e : toTrms xs with
  | none => rfl
  | some ps =>
    simp only
    rw [if_pos ⟨h, by rw [toTrms_len e]; exact h2⟩]
    rfl
def rowsT (t : Trm) : List (List Nat × Int) := (subs t).map rowT
def isT (t : Trm) : Bool := (told (rowsT t) []).isSome
def isTD (d : D) : Bool := match toTrm d with
  | some t => isT t
  | none => false
def likes (ts : List Trm) : Bool := (told (ts.flatMap rowsT) []).isSome
theorem isTD_tD {t : Trm} (h : t.ok = true) : isTD (tD t) = isT t := by unfold isTD; rw [toTrm_tD t h]
/-! ### pairs, facts -/
abbrev Fct := List Pr × Option Pr
def cD : Option Pr → D
  | none => .non
  | some p => pD p
def fD (f : Fct) : D := .tup [.tup (f.1.map pD), cD f.2]
def prTs (p : Pr) : List Trm := [p.1, p.2]
def prsOf (f : Fct) : List Pr := f.1 ++ f.2.toList
def fTs (f : Fct) : List Trm := (prsOf f).flatMap prTs
/-- two terms -/
def toTwo : D → Option Pr
  | .tup [a, b] => match toTrm a, toTrm b with
    | some s, some t => if isT s = true ∧ isT t = true then some (s, t) else none
    | _, _ => none
  | _ => none
def prOk (p : Pr) : Bool := ltE tD p.1 p.2 && likes [p.1, p.2]
def toPr (d : D) : Option Pr := match toTwo d with
  | some p => if prOk p = true then some p else none
  | none => none
def toPrs : List D → Option (List Pr)
  | [] => some []
  | d :: ds => match toPr d, toPrs ds with
    | some p, some ps => some (p :: ps)
    | _, _ => none
def ascB (l : List Pr) : Bool := (List.zipWith (ltE pD) l l.tail).all id
def toCds : D → Option (List Pr)
  | .tup cs => match toPrs cs with
    | some ps => if ascB ps = true then some ps else none
    | none => none
  | _ => none
def toCon (d : D) : Option (Option Pr) := if isNonB d = true then some none else (toPr d).map some
def toFct : D → Option Fct
  | .tup [c, x] => match toCds c with
    | some ps => match toCon x with
      | some o => if likes (fTs (ps, o)) = true then some (ps, o) else none
      | none => none
    | none => none
  | _ => none
theorem toTwo_is {d : D} {p : Pr} (h : toTwo d = some p) : d = pD p ∧ p.1.ok = true ∧ p.2.ok = true ∧ isT p.1 = true ∧ isT p.2 = true := by
  unfold toTwo at h
  split at h
  · split at h
    · rename_i a b s t e1 e2
      split at h
      · rename_i c
        cases h
        obtain ⟨a1, a2⟩ := toTrm_is _ _ e1
        obtain ⟨b1, b2⟩ := toTrm_is _ _ e2
        rw [a1, b1]
        exact ⟨rfl, a2, b2, c.1, c.2⟩
      · cases h
    · cases h
  · cases h
theorem toTwo_pD {p : Pr} (h1 : p.1.ok = true) (h2 : p.2.ok = true) (h3 : isT p.1 = true) (h4 : isT p.2 = true) : toTwo (pD p) = some p := by
  show (match toTrm (tD p.1), toTrm (tD p.2) with
    | some s, some t => if isT s = true ∧ isT t = true then some (s, t) else none
    | _, _ => none) = some p
  rw [toTrm_tD _ h1, toTrm_tD _ h2]
  simp only
  rw [if_pos ⟨h3, h4⟩]
theorem toPr_is {d : D} {p : Pr} (h : toPr d = some p) : toTwo d = some p ∧ prOk p = true := by
  unfold toPr at h
  split at h
  · rename_i q e
    split at h
    · rename_i c; cases h; exact ⟨e, c⟩
    · cases h
  · cases h
theorem toPrs_is : ∀ {ds : List D} {ps : List Pr}, toPrs ds = some ps → ds = ps.map pD ∧ ∀ p ∈ ps, toPr (pD p) = some p
  | [], ps, h => by cases h; exact ⟨rfl, fun _ z => nomatch z⟩
  | d :: ds, ps, h => by
    unfold toPrs at h
    cases e1 : toPr d with
    | none => rw [e1] at h; cases h
    | some p =>
      cases e2 : toPrs ds with
      | none => rw [e1, e2] at h; cases h
      | some qs =>
        rw [e1, e2] at h
        cases h
        obtain ⟨a1, a2⟩ := toPrs_is e2
        have b1 := (toTwo_is (toPr_is e1).1).1
        subst b1
        refine ⟨by rw [a1]; rfl, fun q hq => ?_⟩
        rcases List.mem_cons.mp hq with e | hq
        · rw [e]; exact e1
        · exact a2 q hq
theorem toPrs_some : ∀ ds : List D, (toPrs ds).isSome = ds.all fun d => (toPr d).isSome
  | [] => rfl
  | d :: ds => by
    rw [toPrs, List.all_cons, ← toPrs_some ds]
    cases toPr d with
    | none => rfl
    | some t =>
      cases toPrs ds with
      | none => rfl
      | some ts => rfl
theorem toPrs_map {ps : List Pr} (h : ∀ p ∈ ps, toPr (pD p) = some p) : toPrs (ps.map pD) = some ps := by
  induction ps with
  | nil => rfl
  | cons p ps ih => rw [List.map_cons, toPrs, h p List.mem_cons_self, ih fun q hq => h q (List.mem_cons_of_mem _ hq)]
theorem toCds_is {d : D} {ps : List Pr} (h : toCds d = some ps) : d = .tup (ps.map pD) ∧ (∀ p ∈ ps, toPr (pD p) = some p) ∧ ascB ps = true := by
  unfold toCds at h
  split at h
  · split at h
    · rename_i e
      split at h
      · rename_i c
        cases h
        obtain ⟨a1, a2⟩ := toPrs_is e
        exact ⟨by rw [a1], a2, c⟩
      · cases h
    · cases h
  · cases h
theorem toCon_is {d : D} {o : Option Pr} (h : toCon d = some o) : d = cD o ∧ ∀ p, o = some p → toPr (pD p) = some p := by
  unfold toCon at h
  split at h
  · rename_i c
    cases h
    refine ⟨?_, fun _ z => nomatch z⟩
    cases d with
    | non => rfl
    | _ => cases c
  · cases e : toPr d with
    | none => rw [e] at h; cases h
    | some p =>
      rw [e] at h
      cases h
      have b1 := (toTwo_is (toPr_is e).1).1
      subst b1
      exact ⟨rfl, fun q hq => by cases hq; exact e⟩
theorem toFct_is {d : D} {f : Fct} (h : toFct d = some f) : d = fD f ∧ (∀ p ∈ prsOf f, toPr (pD p) = some p) ∧ ascB f.1 = true ∧ likes (fTs f) = true := by
  unfold toFct at h
  split at h
  · split at h
    · rename_i ps e1
      split at h
      · rename_i o e2
        split at h
        · rename_i c
          cases h
          obtain ⟨a1, a2, a3⟩ := toCds_is e1
          obtain ⟨b1, b2⟩ := toCon_is e2
          refine ⟨by rw [a1, b1]; rfl, fun p hp => ?_, a3, c⟩
          rcases List.mem_append.mp hp with hp | hp
          · exact a2 p hp
          · exact b2 p (by simpa using hp)
        · cases h
      · cases h
    · cases h
  · cases h
theorem toFct_fD {f : Fct} (h1 : ∀ p ∈ prsOf f, toPr (pD p) = some p) (h2 : ascB f.1 = true) (h3 : likes (fTs f) = true) : toFct (fD f) = some f := by
  obtain ⟨ps, o⟩ := f
  have e1 : toCds (.tup (ps.map pD)) = some ps := by
    show (match toPrs (ps.map pD) with
      | some ps => if ascB ps = true then some ps else none
      | none => none) = some ps
    rw [toPrs_map (fun p hp => h1 p (List.mem_append.mpr (.inl hp)) : ∀ p ∈ ps, toPr (pD p) = some p)]
    simp only
    rw [if_pos h2]
  have e2 : toCon (cD o) = some o := by
    cases o with
    | none => rfl
    | some p =>
      have := h1 p (List.mem_append.mpr (.inr (by simp)))
      show (toPr (pD p)).map some = some (some p)
      rw [this]
      rfl
  unfold fD toFct
  simp only [e1, e2]
  rw [if_pos h3]
theorem ascB_iff : ∀ {l : List Pr}, ascB l = true ↔ l.Pairwise (fun a b => ltE pD a b = true)
  | [] => by simp [ascB]
  | [a] => by simp [ascB]
  | a :: b :: l => by
    have ih := ascB_iff (l := b :: l)
    have e : ascB (a :: b :: l) = (ltE pD a b && ascB (b :: l)) := by
      unfold ascB
      simp only [List.tail_cons, List.zipWith_cons_cons, List.all_cons, id]
    rw [e, Bool.and_eq_true, ih, List.pairwise_cons (a := a)]
    constructor
    · rintro ⟨h1, h2⟩
      refine ⟨fun c hc => ?_, h2⟩
      rcases List.mem_cons.mp hc with rfl | hc
      · exact h1
      · exact ordP.tr h1 ((List.pairwise_cons.mp h2).1 c hc)
    · rintro ⟨h1, h2⟩
      exact ⟨h1 b List.mem_cons_self, h2⟩
/-- the pair of two terms, in order -/
def ordp (a b : Trm) : Pr := if ltE tD a b = true then (a, b) else (b, a)
end DS

namespace K03
open PySem PySem.Spec PyProof.Rows L2 DS
local macro_rules | `(tactic| walk_at "s") => `(tactic| first
  | with_reducible refine w_seq ?_
  | with_reducible refine w_next ?_
  | with_reducible refine w_drop ?_
  | with_reducible refine w_ret ?_
  | with_reducible refine w_retN ?_
  | with_reducible refine w_if ?_
  | with_reducible refine w_asg ?_
  | with_reducible refine w_set ?_
  | with_reducible refine w_par ?_
  | with_reducible refine w_two ?_
  | with_reducible refine w_gnm ?_
  | with_reducible refine w_raise ?_
  | with_reducible refine w_break ?_
  | with_reducible refine w_cont ?_
  | with_reducible refine w_c ?_
  | with_reducible refine w_op ?_
  | with_reducible refine w_un ?_
  | with_reducible refine w_b ?_
  | with_reducible refine w_m ?_
  | with_reducible refine w_nil ?_
  | with_reducible refine w_cons ?_
  | with_reducible refine w_val ?_
  | with_reducible refine w_asB ?_
  | with_reducible refine w_and ?_
  | with_reducible refine w_or ?_
  | with_reducible refine w_not ?_
  | with_reducible refine w_andV ?_
  | with_reducible refine w_orV ?_
  | with_reducible refine w_notE ?_
  | with_reducible refine w_notV ?_
  | with_reducible refine w_ifE ?_
  | with_reducible refine w_ift ?_
  | with_reducible refine w_iff ?_
  | with_reducible refine w_tup ?_
  | with_reducible refine w_lst ?_
  | with_reducible refine w_lstM ?_
  | with_reducible refine w_sl ?_
  | with_reducible refine w_on ?_
  | with_reducible refine w_os ?_
  | with_reducible refine w_slS ?_
  | with_reducible refine w_slT ?_
  | with_reducible refine w_slL ?_
  | with_reducible refine w_call ?_
  | with_reducible refine w_frz ?_
  | with_reducible refine w_addI ?_
  | with_reducible refine w_sub ?_
  | with_reducible refine w_inc ?_
  | with_reducible refine w_neg ?_
  | with_reducible refine w_lt ?_
  | with_reducible refine w_le ?_
  | with_reducible refine w_gt ?_
  | with_reducible refine w_ge ?_
  | with_reducible refine w_eqI ?_
  | with_reducible refine w_neI ?_
  | with_reducible refine w_eqS ?_
  | with_reducible refine w_neS ?_
  | with_reducible refine w_lenS ?_
  | with_reducible refine w_lenT ?_
  | with_reducible refine w_lenL ?_
  | with_reducible refine w_lenF ?_
  | with_reducible refine w_lenD ?_
  | with_reducible refine w_int ?_
  | with_reducible refine w_intB ?_
  | with_reducible refine w_abs ?_
  | with_reducible refine w_max ?_
  | with_reducible refine w_min ?_
  | with_reducible refine w_tupL ?_
  | with_reducible refine w_tupT ?_
  | with_reducible refine w_listL ?_
  | with_reducible refine w_listT ?_
  | with_reducible refine w_listML ?_
  | with_reducible refine w_listMT ?_
  | with_reducible refine w_chain ?_
  | with_reducible refine w_vint ?_
  | with_reducible refine w_vbl ?_
  | with_reducible refine w_vnon ?_
  | with_reducible refine w_vstr ?_
  | with_reducible refine w_vtup ?_
  | with_reducible refine w_vlst ?_
  | with_reducible refine w_vfl ?_
  | with_reducible refine w_vdic ?_
  | with_reducible refine w_vty ?_
  | with_reducible refine w_vtm ?_
  | with_reducible refine w_vsn ?_
  | with_reducible refine w_vsc ?_
  | with_reducible refine w_starT ?_
  | with_reducible refine w_starL ?_
  | with_reducible refine w_inS ?_
  | with_reducible refine w_asD ?_
  | with_reducible refine w_asO ?_
  | with_reducible refine w_ifnt ?_
  | with_reducible refine w_ifnf ?_
  | with_reducible refine w_oi ?_
  | with_reducible refine w_it ?_
  | with_reducible refine w_itT ?_
  | with_reducible refine w_itL ?_
  | with_reducible refine w_itF ?_
  | with_reducible refine w_itS ?_
  | with_reducible refine w_rg1 ?_
  | with_reducible refine w_rg2 ?_
  | with_reducible refine w_star ?_
  | with_reducible refine w_for ?_
  | with_reducible refine w_joined ?_
  | with_reducible refine w_jsn ?_
  | with_reducible refine w_jsc ?_
  | with_reducible refine w_fmt ?_
  | with_reducible refine w_fmtS ?_
  | with_reducible refine w_setd ?_
  | with_reducible refine w_newK ?_
  | with_reducible refine w_lenSet ?_
  | with_reducible refine w_try ?_
  | with_reducible refine w_put ?_
  | ((with_reducible refine' w_var ?h ?_); (case h => exact rfl))
  | ((with_reducible refine' w_aug ?h ?_); (case h => exact rfl))
  | ((with_reducible refine' w_own ?h ?_); (case h => assumption))
  | ((with_reducible refine' w_frzO ?h ?_); (case h => assumption))
  | ((with_reducible refine' w_isN ?h ?_); (case h => exact rfl))
  | ((with_reducible refine' w_notN ?h ?_); (case h => exact rfl))
  | ((with_reducible refine' w_gtp ?h ?_); (case h => exact rfl))
  | ((with_reducible refine' w_mod ?h ?_); (case h => decide))
  | ((with_reducible refine' w_itO ?h ?_); (case h => assumption))
  | ((with_reducible refine' w_isiY ?h1 ?h2 ?h3 ?h4 ?_); (case h1 => exact rfl); (case h4 => decide); (case h2 => decide); (case h3 => (intro _ hh; cases hh)))
  | ((with_reducible refine' w_isiN ?h1 ?h2 ?h3 ?h4 ?_); (case h1 => exact rfl); (case h4 => decide); (case h2 => decide); (case h3 => (intro _ hh; cases hh)))
  | ((with_reducible refine And.intro ?h ?_); (case h => (show Sz _; first | decide | (simp only [List.length_cons, List.length_nil]; decide) | assumption)))
  | with_reducible refine w_notT ?_
  | with_reducible refine w_isT ?_
  | with_reducible refine w_isF ?_
  | with_reducible refine w_notF ?_
  | with_reducible refine w_rev ?_
  | with_reducible refine w_revL ?_
  | with_reducible refine w_revT ?_
  | with_reducible refine w_en ?_
  | with_reducible refine w_enL ?_
  | with_reducible refine w_zp ?_
  | with_reducible refine w_zpL ?_
  | with_reducible refine w_zpT ?_
  | with_reducible refine w_listDD ?_
  | ((with_reducible refine' w_gtl ?h ?_); (case h => exact rfl))
  | ((with_reducible refine' w_sfrz ?h1 ?h2 ?_); (case h1 => exact rfl); (case h2 => first | assumption | exact oput_same)))
local macro_rules | `(tactic| walk_at "vc") => `(tactic| repeat walk_at "s")
abbrev PP : Program := PySem.Challenge.pw_shownpart_k03_terms_replaced_and_renamed
def top (i : Nat) : Stmt := PP.main.body.getD i (.Pass ⟨0, 0, 0, 0⟩)
abbrev s_is_name : Stmt := top 9
abbrev s_is_formed : Stmt := top 10
abbrev s_subterms_in : Stmt := top 11
abbrev s_place_rows : Stmt := top 12
abbrev s_told_places : Stmt := top 13
abbrev s_is_term : Stmt := top 14
abbrev s_require_term : Stmt := top 15
abbrev s_require_terms : Stmt := top 16
abbrev s_ordered_dict : Stmt := top 17
abbrev s_places_of : Stmt := top 18
abbrev s_replaced_in : Stmt := top 19
abbrev s_replaced : Stmt := top 20
abbrev s_require_renaming : Stmt := top 21
abbrev s_renaming_of : Stmt := top 22
abbrev s_renamed_in : Stmt := top 23
abbrev s_renamed : Stmt := top 24
abbrev s_renamed_by : Stmt := top 25
abbrev s__law_dice : Stmt := top 27
abbrev s__law_roll : Stmt := top 28
abbrev s__law_pick : Stmt := top 29
abbrev s__law_mixed : Stmt := top 30
abbrev s__law_below : Stmt := top 31
abbrev s__law_names : Stmt := top 32
abbrev s__law_term : Stmt := top 33
abbrev s__law_put : Stmt := top 34
abbrev s__law_is_like : Stmt := top 35
abbrev s__law_other_names : Stmt := top 36
abbrev s__law_told : Stmt := top 37
abbrev s__law_due_names : Stmt := top 38
abbrev s__law_replaced_right : Stmt := top 39
abbrev s__law_renaming : Stmt := top 40
abbrev s__law_renamed_right : Stmt := top 41
abbrev s_law : Stmt := top 42
abbrev FnP (K : PySem.W.Frag) (x : Str) (st : Stmt) (f : Addr) (fd : FuncData) : Prop := FunD K x x (defArgs st) (defBody st) (defScope st) [] [] f fd
def d_is_name : He.DefD := ⟨("is_name", none), "is_name", "is_name", defArgs s_is_name, defBody s_is_name, defScope s_is_name, [], []⟩
def d_is_formed : He.DefD := ⟨("is_formed", none), "is_formed", "is_formed", defArgs s_is_formed, defBody s_is_formed, defScope s_is_formed, [], []⟩
def d_subterms_in : He.DefD := ⟨("subterms_in", none), "subterms_in", "subterms_in", defArgs s_subterms_in, defBody s_subterms_in, defScope s_subterms_in, [], []⟩
def d_place_rows : He.DefD := ⟨("place_rows", none), "place_rows", "place_rows", defArgs s_place_rows, defBody s_place_rows, defScope s_place_rows, [], []⟩
def d_told_places : He.DefD := ⟨("told_places", none), "told_places", "told_places", defArgs s_told_places, defBody s_told_places, defScope s_told_places, [], []⟩
def d_is_term : He.DefD := ⟨("is_term", none), "is_term", "is_term", defArgs s_is_term, defBody s_is_term, defScope s_is_term, [], []⟩
def d_require_term : He.DefD := ⟨("require_term", none), "require_term", "require_term", defArgs s_require_term, defBody s_require_term, defScope s_require_term, [], []⟩
def d_require_terms : He.DefD := ⟨("require_terms", none), "require_terms", "require_terms", defArgs s_require_terms, defBody s_require_terms, defScope s_require_terms, [], []⟩
def d_ordered_dict : He.DefD := ⟨("ordered_dict", none), "ordered_dict", "ordered_dict", defArgs s_ordered_dict, defBody s_ordered_dict, defScope s_ordered_dict, [], []⟩
def d_places_of : He.DefD := ⟨("places_of", none), "places_of", "places_of", defArgs s_places_of, defBody s_places_of, defScope s_places_of, [], []⟩
def d_replaced_in : He.DefD := ⟨("replaced_in", none), "replaced_in", "replaced_in", defArgs s_replaced_in, defBody s_replaced_in, defScope s_replaced_in, [], []⟩
def d_replaced : He.DefD := ⟨("replaced", none), "replaced", "replaced", defArgs s_replaced, defBody s_replaced, defScope s_replaced, [], []⟩
def d_require_renaming : He.DefD := ⟨("require_renaming", none), "require_renaming", "require_renaming", defArgs s_require_renaming, defBody s_require_renaming, defScope s_require_renaming, [], []⟩
def d_renaming_of : He.DefD := ⟨("renaming_of", none), "renaming_of", "renaming_of", defArgs s_renaming_of, defBody s_renaming_of, defScope s_renaming_of, [], []⟩
def d_renamed_in : He.DefD := ⟨("renamed_in", none), "renamed_in", "renamed_in", defArgs s_renamed_in, defBody s_renamed_in, defScope s_renamed_in, [], []⟩
def d_renamed : He.DefD := ⟨("renamed", none), "renamed", "renamed", defArgs s_renamed, defBody s_renamed, defScope s_renamed, [], []⟩
def d_renamed_by : He.DefD := ⟨("renamed_by", none), "renamed_by", "renamed_by", defArgs s_renamed_by, defBody s_renamed_by, defScope s_renamed_by, [], []⟩
def d__law_dice : He.DefD := ⟨("_law_dice", none), "_law_dice", "_law_dice", defArgs s__law_dice, defBody s__law_dice, defScope s__law_dice, [], []⟩
def d__law_roll : He.DefD := ⟨("_law_roll", none), "_law_roll", "_law_roll", defArgs s__law_roll, defBody s__law_roll, defScope s__law_roll, [], []⟩
def d__law_pick : He.DefD := ⟨("_law_pick", none), "_law_pick", "_law_pick", defArgs s__law_pick, defBody s__law_pick, defScope s__law_pick, [], []⟩
def d__law_mixed : He.DefD := ⟨("_law_mixed", none), "_law_mixed", "_law_mixed", defArgs s__law_mixed, defBody s__law_mixed, defScope s__law_mixed, [], []⟩
def d__law_below : He.DefD := ⟨("_law_below", none), "_law_below", "_law_below", defArgs s__law_below, defBody s__law_below, defScope s__law_below, [], []⟩
def d__law_names : He.DefD := ⟨("_law_names", none), "_law_names", "_law_names", defArgs s__law_names, defBody s__law_names, defScope s__law_names, [], []⟩
def d__law_term : He.DefD := ⟨("_law_term", none), "_law_term", "_law_term", defArgs s__law_term, defBody s__law_term, defScope s__law_term, [], []⟩
def d__law_put : He.DefD := ⟨("_law_put", none), "_law_put", "_law_put", defArgs s__law_put, defBody s__law_put, defScope s__law_put, [], []⟩
def d__law_is_like : He.DefD := ⟨("_law_is_like", none), "_law_is_like", "_law_is_like", defArgs s__law_is_like, defBody s__law_is_like, defScope s__law_is_like, [], []⟩
def d__law_other_names : He.DefD := ⟨("_law_other_names", none), "_law_other_names", "_law_other_names", defArgs s__law_other_names, defBody s__law_other_names, defScope s__law_other_names, [], []⟩
def d__law_told : He.DefD := ⟨("_law_told", none), "_law_told", "_law_told", defArgs s__law_told, defBody s__law_told, defScope s__law_told, [], []⟩
def d__law_due_names : He.DefD := ⟨("_law_due_names", none), "_law_due_names", "_law_due_names", defArgs s__law_due_names, defBody s__law_due_names, defScope s__law_due_names, [], []⟩
def d__law_replaced_right : He.DefD := ⟨("_law_replaced_right", none), "_law_replaced_right", "_law_replaced_right", defArgs s__law_replaced_right, defBody s__law_replaced_right, defScope s__law_replaced_right, [], []⟩
def d__law_renaming : He.DefD := ⟨("_law_renaming", none), "_law_renaming", "_law_renaming", defArgs s__law_renaming, defBody s__law_renaming, defScope s__law_renaming, [], []⟩
def d__law_renamed_right : He.DefD := ⟨("_law_renamed_right", none), "_law_renamed_right", "_law_renamed_right", defArgs s__law_renamed_right, defBody s__law_renamed_right, defScope s__law_renamed_right, [], []⟩
def d_law : He.DefD := ⟨("law", none), "law", "law", defArgs s_law, defBody s_law, defScope s_law, [], []⟩

structure Gs (K : PySem.W.Frag) (mg : Str → Option Value) (C : Str → Addr) : Prop where
  f_abs : mg "abs" = none
  f_all : mg "all" = none
  f_dict : mg "dict" = none
  f_int : mg "int" = none
  f_isinstance : mg "isinstance" = none
  f_len : mg "len" = none
  f_list : mg "list" = none
  f_max : mg "max" = none
  f_min : mg "min" = none
  f_range : mg "range" = none
  f_repr : mg "repr" = none
  f_set : mg "set" = none
  f_sorted : mg "sorted" = none
  f_str : mg "str" = none
  f_tuple : mg "tuple" = none
  f_zip : mg "zip" = none
  c_LETTERS : ∃ t, mg "LETTERS" = some (.str "abcdefghijklmnopqrstuvwxyz" t)
  c_MAX_SIGNS : ∃ t, mg "MAX_SIGNS" = some (.int 8 t)
  c_MAX_PLACES : ∃ t, mg "MAX_PLACES" = some (.int 3 t)
  e_PartError : ExcG K mg "PartError" (C "PartError")
  e_InvalidName : ExcG K mg "InvalidName" (C "InvalidName")
  e_InvalidTerm : ExcG K mg "InvalidTerm" (C "InvalidTerm")
  e_InvalidOperation : ExcG K mg "InvalidOperation" (C "InvalidOperation")
  m_InvalidOperation : PySem.W.exmOne K (.ref (C "InvalidOperation")) (.ref (C "InvalidOperation")) = some true
  m_InvalidTerm : PySem.W.exmOne K (.ref (C "InvalidTerm")) (.ref (C "InvalidTerm")) = some true
  x_InvalidName__InvalidOperation : PySem.W.exmOne K (.ref (C "InvalidName")) (.ref (C "InvalidOperation")) = some false
  x_InvalidName__InvalidTerm : PySem.W.exmOne K (.ref (C "InvalidName")) (.ref (C "InvalidTerm")) = some false
  x_InvalidOperation__InvalidOperation : PySem.W.exmOne K (.ref (C "InvalidOperation")) (.ref (C "InvalidOperation")) = some true
  x_InvalidOperation__InvalidTerm : PySem.W.exmOne K (.ref (C "InvalidOperation")) (.ref (C "InvalidTerm")) = some false
  x_InvalidTerm__InvalidOperation : PySem.W.exmOne K (.ref (C "InvalidTerm")) (.ref (C "InvalidOperation")) = some false
  x_InvalidTerm__InvalidTerm : PySem.W.exmOne K (.ref (C "InvalidTerm")) (.ref (C "InvalidTerm")) = some true
section
variable {P : Program} {w : World} {K : PySem.W.Frag} {mg : Str → Option Value} {base : Heap} {f : Addr} {fd : FuncData} {C : Str → Addr} {k : Nat}
def sp_is_name : DSp := fun ds O Q _ => ∃ d, ds = [d] ∧ typed d = true ∧ Q (.bl (nmD d)) O
abbrev N_is_name : List Str := ["value", "sign"]
theorem sc_is_name : FnScope N_is_name ["value"] (defScope s_is_name) := ⟨rfl, rfl, rfl, by decide +kernel, rfl, by decide +kernel, by decide +kernel⟩
theorem ok_is_name (F : FnP K "is_name" s_is_name f fd) (g : Gs K mg C) : FnOk P w K mg base (CX P w) (k + 1) f fd ["value"] (liftF K sp_is_name) := by
  refine okD2 (t := fun W => _) F sc_is_name ?_ (fun cdv A outer s H E F0 W tk hr => (dss_one (ds_ret (de_and (de_b call_isi l_isi rfl g.f_isinstance rfl (da_cons (dv 0) (da_cons (de_ty rfl g.f_str rfl) da_nil))) (de_and (de_chain op_le op_le l_le l_le de_int (de_b call_lenW l_len rfl g.f_len rfl (da_cons (dv 0) da_nil)) (de_gint rfl g.c_MAX_SIGNS)) (de_one (de_b (cr_all rfl) l_all rfl g.f_all rfl (da_cons (de_lc (own := [("sign", 1)]) (tgt := .one 1) fin_data rfl sc_is_name.nd (di_any (dv 0)) (blkOk_by (N := N_is_name) (sc := defScope s_is_name) (by decide +kernel)) List.mem_cons_self (fun _ _ _ _ _ => pg_name (i := 1) sc_is_name.nd rfl (by first | exact Or.inl rfl | exact Or.inr rfl)) (fun _ _ _ _ _ _ => dts_nil) (fun _ _ _ _ _ _ => (de_cmp (op_inW (un200 hr)) (l_in trivial) (dv 1) (de_gstr [97, 98, 99, 100, 101, 102, 103, 104, 105, 106, 107, 108, 109, 110, 111, 112, 113, 114, 115, 116, 117, 118, 119, 120, 121, 122] rfl g.c_LETTERS) rfl))) da_nil)))))))) ?_
  · rintro ds O Q E ⟨cs, rfl, _⟩; rfl
  · rintro ds O Q E ⟨d, rfl, hty, q⟩
    cases hs : isStrD d with
    | false =>
      walk_at "vc"
      refine w_vt hty ?_
      walk_at "vc"
      refine w_isiStr hty ?_
      rw [hs]
      walk_at "vc"
      rw [nmD_no hs] at q
      exact w_q q
    | true =>
      obtain ⟨cs, rfl⟩ := isStrD_elim hs
      walk_at "vc"
      refine w_ch (fun h1 => ?_) fun h1 => ?_
      · walk_at "vc"
        refine w_ifd (fun h2 => ?_) fun h2 => ?_
        · walk_at "vc"
          refine lc_mapA cs (fun c => .str [c]) (fun c => .bl (ltr c)) (fun R h => h kAny trivial) (fun c _ kk hk => ?_) ?_
          · walk_at "vc"
            exact hk
          · walk_at "vc"
            refine w_all (blsD_mapA ltr cs) ?_
            have e : isNm cs = (cs.map ltr).all id := by
              have a1 : 1 ≤ cs.length := by omega
              have a2 : cs.length ≤ 8 := by omega
              unfold isNm
              rw [decide_eq_true a1, decide_eq_true a2, List.all_map]
              rfl
            rw [← e]; exact w_q q
        · have e : isNm cs = false := by
            unfold isNm
            rw [decide_eq_false (show ¬ cs.length ≤ 8 by omega)]
            simp
          rw [show nmD (.str cs) = isNm cs from rfl, e] at q; exact w_q q
      · have e : isNm cs = false := by
          unfold isNm
          rw [decide_eq_false (show ¬ 1 ≤ cs.length by omega)]
          simp
        rw [show nmD (.str cs) = isNm cs from rfl, e] at q; exact w_q q
def sp_is_formed (n : Nat) : DSp := fun ds O Q _ => ∃ d, ds = [d] ∧ typed d = true ∧ tdp d < n ∧ Q (.bl (toTrm d).isSome) O
abbrev N_is_formed : List Str := ["value", "part"]
theorem sc_is_formed : FnScope N_is_formed ["value"] (defScope s_is_formed) := ⟨rfl, rfl, rfl, by decide +kernel, rfl, by decide +kernel, by decide +kernel⟩
theorem ok_is_formed (F : FnP K "is_formed" s_is_formed f fd) (g : Gs K mg C) {n : Nat} (c_is_formed : DFn P w K mg base "is_formed" k (sp_is_formed n)) (c_is_name : DFn P w K mg base "is_name" k sp_is_name)  : FnOk P w K mg base (CX P w) (k + 1) f fd ["value"] (liftF K (sp_is_formed (n + 1))) := by
  refine okD2 (t := fun W => _) F sc_is_formed ?_ (fun cdv A outer s H E F0 W tk hr => (dss_cons (ds_if (dt_w (dw_or (dt_not (dt_val (de_b call_isi l_isi rfl g.f_isinstance rfl (da_cons (dv 0) (da_cons (de_ty rfl g.f_tuple rfl) da_nil))))) (dw_or (dt_not (dt_chain op_le op_le l_le l_le de_int (de_b call_lenW l_len rfl g.f_len rfl (da_cons (dv 0) da_nil)) (de_op (op_add.or (op_add_str.or (op_catA.or op_cat))) l_add de_int (de_gint rfl g.c_MAX_PLACES)))) (dw_or1 (dt_not (dt_val (de_call c_is_name hr (passD tk) rfl (da_cons (de_at hr (dv 0) de_int) da_nil)))))))) (dss_one (ds_ret de_bl)) dss_nil) (dss_one (ds_ret (de_b (cr_all rfl) l_all rfl g.f_all rfl (da_cons (de_lc (own := [("part", 1)]) (tgt := .one 1) fin_data rfl sc_is_formed.nd (di_any (de_slice (dv 0) (do_some de_int) do_none)) (blkOk_by (N := N_is_formed) (sc := defScope s_is_formed) (by decide +kernel)) List.mem_cons_self (fun _ _ _ _ _ => pg_name (i := 1) sc_is_formed.nd rfl (by first | exact Or.inl rfl | exact Or.inr rfl)) (fun _ _ _ _ _ _ => dts_nil) (fun _ _ _ _ _ _ => (de_call c_is_formed hr (passD0) rfl (da_cons (dv 1) da_nil)))) da_nil)))))) ?_
  · rintro ds O Q E ⟨t, rfl, _⟩; rfl
  · rintro ds O Q E ⟨d, rfl, hty, hd, q⟩
    cases hs : isTupD d with
    | false =>
      walk_at "vc"
      refine w_vt hty ?_
      walk_at "vc"
      refine w_isiTup hty ?_
      rw [hs]
      walk_at "vc"
      rw [toTrm_no hs] at q
      exact w_q q
    | true =>
      obtain ⟨xs, rfl⟩ := isTupD_elim hs
      have hty2 := typeds_all.mp (show typeds xs = true from hty)
      have hd2 : ∀ x ∈ xs, tdp x < n := fun x hx => by
        have h1 : 1 + tdps xs < n + 1 := hd
        have := tdps_le.mp (Nat.le_refl (tdps xs)) x hx
        omega
      cases xs with
      | nil =>
        walk_at "vc"
        refine w_ch (fun e => absurd e (by decide)) fun _ => ?_
        walk_at "vc"
        exact w_q q
      | cons x rest =>
        walk_at "vc"
        refine w_ch (fun _ => ?_) fun e => absurd (show (1 : Int) ≤ (x :: rest).length by rw [List.length_cons]; omega) e
        walk_at "vc"
        refine w_ifnd (fun h1 => ?_) fun h1 => ?_
        · walk_at "vc"
          refine w_atT atI_head ?_
          walk_at "vc"
          refine ⟨x, rfl, hty2 x List.mem_cons_self, ?_⟩
          walk_at "vc"
          cases hn : nmD x with
          | false =>
            walk_at "vc"
            rw [toTrm_bad hn] at q
            exact w_q q
          | true =>
            obtain ⟨nm, rfl, hnm⟩ := nmD_elim hn
            have hl : rest.length ≤ 3 := by rw [List.length_cons] at h1; omega
            walk_at "vc"
            refine lc_map rest (fun d => .bl (toTrm d).isSome) (fun R h => ?_) (fun d hd kk hkk => ?_) ?_
            · walk_at "vc"
              rw [dcut_tail]
              exact h kAny trivial
            · walk_at "vc"
              exact ⟨d, rfl, hty2 d (List.mem_cons_of_mem _ hd), hd2 d (List.mem_cons_of_mem _ hd), hkk⟩
            · walk_at "vc"
              refine w_all (blsD_mapA (fun d => (toTrm d).isSome) rest) ?_
              rw [toTrm_cons hnm hl] at q
              rw [List.all_map]
              exact w_q q
        · walk_at "vc"
          rw [toTrm_long (fun h => h1 (by omega))] at q
          exact w_q q
/-! subterms_in -/
def sp_subterms_in (n : Nat) : DSp := fun ds O Q _ => ∃ t : Trm, ds = [tD t] ∧ tdep t ≤ n ∧ (subs t).length ≤ 100000 ∧ Q (.lst ((subs t).map tD)) O
abbrev N_subterms_in : List Str := ["term", "found", "part"]
theorem sc_subterms_in : FnScope N_subterms_in ["term"] (defScope s_subterms_in) := ⟨rfl, rfl, rfl, by decide +kernel, rfl, by decide +kernel, by decide +kernel⟩
theorem ok_subterms_in (F : FnP K "subterms_in" s_subterms_in f fd) (g : Gs K mg C) {n : Nat} (c_subterms_in : DFn P w K mg base "subterms_in" k (sp_subterms_in n))  : FnOk P w K mg base (CX P w) (k + 1) f fd ["term"] (liftF K (sp_subterms_in (n + 1))) := by
  refine okD2 (t := fun W => _) F sc_subterms_in ?_ (fun cdv A outer s H E F0 W tk hr => (dss_cons (ds_set (i := 1) sc_subterms_in.nd rfl (.inl rfl) (de_lstM da_nil)) (dss_cons (ds_for (passes_of rfl) rfl (di_any (de_slice (dv 0) (do_some de_int) do_none)) (dg_name (i := 2) sc_subterms_in.nd rfl (.inl rfl)) (dss_one (ds_expr (de_m PySem.F.plainAttrs_list PySem.F.slot_list_extend PySem.F.type_list_extend mt_extend lm_extend (.inr rfl) (dv 1) (da_cons (de_call c_subterms_in hr (passD tk) rfl (da_cons (dv 2) da_nil)) da_nil))))) (dss_cons (ds_expr (de_m PySem.F.plainAttrs_list PySem.F.slot_list_append PySem.F.type_list_append mt_append lm_append (.inr rfl) (dv 1) (da_cons (dv 0) da_nil))) (dss_one (ds_ret (de_frz (dv 1)))))))) ?_
  · rintro ds O Q E ⟨t, rfl, _⟩; rfl
  · rintro ds O Q E ⟨⟨nm, ps⟩, rfl, hd, hz, q⟩
    rw [tdep] at hd
    have hd2 : ∀ t ∈ ps, tdep t ≤ n := tdeps_le.mp (by omega)
    have hz2 : (subss ps).length + 1 ≤ 100000 := by rw [subs, List.length_append] at hz; exact hz
    rw [tD]
    walk_at "vc"
    intro p hp
    walk_at "vc"
    rw [dcut_tail, tDs_eq]
    refine ⟨fun i ρ' O' => ∃ x, ρ' = [some (.tup (.str nm :: ps.map tD)), some (.atm (.ref p)), x] ∧ O' = oput O p (.lst ((subss (ps.take i)).map tD)), ⟨none, rfl, rfl⟩, fun _ _ _ _ _ => trivial, ?_, ?_⟩
    · rintro i d ρ' O' hi ⟨x, rfl, rfl⟩
      rw [List.getElem?_map] at hi
      cases ht : ps[i]? with
      | none => rw [ht] at hi; cases hi
      | some t =>
        rw [ht] at hi
        cases hi
        have hm : t ∈ ps := List.mem_of_getElem? ht
        have e1 : oput O p (.lst ((subss (ps.take i)).map tD)) p = some (.lst ((subss (ps.take i)).map tD)) := oput_same
        walk_at "vc"
        refine ⟨rfl, ?_⟩
        walk_at "vc"
        refine ⟨t, rfl, hd2 t hm, Nat.le_trans (subss_le hm) (by omega), ?_⟩
        walk_at "vc"
        have hl : (subss (ps.take (i + 1))).length ≤ 100000 := Nat.le_trans (subss_take ps _) (by omega)
        have et : subss (ps.take (i + 1)) = subss (ps.take i) ++ subs t := by rw [List.take_add_one, ht, subss_app]; simp [subss]
        refine w_extL e1 ?_ ?_
        · rw [et, List.length_append] at hl
          show _ ≤ 16777216
          simp only [List.length_map]
          omega
        · walk_at "vc"
          refine ⟨some (tD t), rfl, ?_⟩
          rw [oput_oput, et, List.map_append]
    · rintro ρ' O' ⟨x, rfl, rfl⟩
      rw [List.length_map, List.take_length]
      have e1 : oput O p (.lst ((subss ps).map tD)) p = some (.lst ((subss ps).map tD)) := oput_same
      walk_at "vc"
      refine ⟨rfl, ?_⟩
      walk_at "vc"
      refine w_app e1 (by show _ < 16777216; rw [List.length_map]; omega) ?_
      walk_at "vc"
      refine w_frzO oput_same ?_
      rw [oput_oput, odel_oput hp]
      have e : (subs (.mk nm ps)).map tD = (subss ps).map tD ++ [.tup (.str nm :: tDs ps)] := by rw [subs, List.map_append]; rfl
      rw [e, tDs_eq] at q
      exact w_q q
/-! place_rows, told_places -/
def rowsD' (t : Trm) : List D := (subs t).map fun s => rowD' (rowT s)
def sp_place_rows (n : Nat) : DSp := fun ds O Q _ => ∃ t : Trm, ds = [tD t] ∧ tdep t ≤ n ∧ (subs t).length ≤ 100000 ∧ Q (.lst (rowsD' t)) O
abbrev N_place_rows : List Str := ["term", "part"]
theorem sc_place_rows : FnScope N_place_rows ["term"] (defScope s_place_rows) := ⟨rfl, rfl, rfl, by decide +kernel, rfl, by decide +kernel, by decide +kernel⟩
theorem ok_place_rows (F : FnP K "place_rows" s_place_rows f fd) (g : Gs K mg C) {n : Nat} (c_subterms_in : DFn P w K mg base "subterms_in" k (sp_subterms_in n))  : FnOk P w K mg base (CX P w) (k + 1) f fd ["term"] (liftF K (sp_place_rows n)) := by
  refine okD2 (t := fun W => _) F sc_place_rows ?_ (fun cdv A outer s H E F0 W tk hr => (dss_one (ds_ret (de_lc (own := [("part", 1)]) (tgt := .one 1) fin_data rfl sc_place_rows.nd (di_any (de_call c_subterms_in hr (passD tk) rfl (da_cons (dv 0) da_nil))) (blkOk_by (N := N_place_rows) (sc := defScope s_place_rows) (by decide +kernel)) List.mem_cons_self (fun _ _ _ _ _ => pg_name (i := 1) sc_place_rows.nd rfl (by first | exact Or.inl rfl | exact Or.inr rfl)) (fun _ _ _ _ _ _ => dts_nil) (fun _ _ _ _ _ _ => (de_tup (da_cons (de_at hr (dv 1) de_int) (da_cons (de_op op_sub l_sub (de_b call_lenW l_len rfl g.f_len rfl (da_cons (dv 1) da_nil)) de_int) da_nil)))))))) ?_
  · rintro ds O Q E ⟨t, rfl, _⟩; rfl
  · rintro ds O Q E ⟨t, rfl, hd, hz, q⟩
    walk_at "vc"
    refine lc_mapA (subs t) tD (fun s => rowD' (rowT s)) (fun R h => ?_) (fun s _ kk hk => ?_) ?_
    · walk_at "vc"
      exact ⟨t, rfl, hd, hz, h kAny trivial⟩
    · obtain ⟨nm, ps⟩ := s
      rw [tD]
      walk_at "vc"
      refine w_atT atI_head ?_
      walk_at "vc"
      have e : (((D.str nm :: tDs ps).length : Nat) : Int) - 1 = ps.length := by rw [List.length_cons, tDs_len]; omega
      rw [e]
      exact hk
    · exact w_q q
def sp_told_places : DSp := fun ds O Q _ => ∃ l : List (List Nat × Int), ds = [.lst (l.map rowD')] ∧ l.length ≤ 100000 ∧ Q (toldD (told l [])) O
abbrev N_told_places : List Str := ["rows", "found", "name", "places"]
theorem sc_told_places : FnScope N_told_places ["rows"] (defScope s_told_places) := ⟨rfl, rfl, rfl, by decide +kernel, rfl, by decide +kernel, by decide +kernel⟩
theorem ok_told_places (F : FnP K "told_places" s_told_places f fd) (g : Gs K mg C)  : FnOk P w K mg base (CX P w) (k + 1) f fd ["rows"] (liftF K sp_told_places) := by
  refine okD2 (t := fun W => _) F sc_told_places ?_ (fun cdv A outer s H E F0 W tk hr => (dss_cons (ds_set (i := 1) sc_told_places.nd rfl (.inl rfl) de_newK) (dss_cons (ds_for (passes_of rfl) rfl (di_any (dv 0)) (dg_tup (is := [2, 3]) rfl (pgs_cons (pg_name (i := 2) sc_told_places.nd rfl (.inl rfl)) (pgs_cons (pg_name (i := 3) sc_told_places.nd rfl (.inl rfl)) pgs_nil))) (dss_one (ds_if (dt_cmp (op_neV (un200 hr)) l_ne (de_setd (dv 1) (dv 2) (dv 3)) (dv 3) rfl) (dss_one (ds_ret de_non)) dss_nil))) (dss_one (ds_ret (de_frz (dv 1))))))) ?_
  · rintro ds O Q E ⟨t, rfl, _⟩; rfl
  · rintro ds O Q E ⟨l, rfl, hl, q⟩
    walk_at "vc"
    intro p hp
    walk_at "vc"
    refine ⟨fun i ρ' O' => ∃ x y acc, ρ' = [some (.lst (l.map rowD')), some (.atm (.ref p)), x, y] ∧ O' = oput O p (.dic acc) ∧ told (l.drop i) acc = told l [] ∧ (acc.map (·.1)).Nodup ∧ acc.length ≤ i ∧ ∀ kv ∈ acc, ∃ c, kv.2 = .int c, ⟨none, none, [], rfl, rfl, rfl, List.nodup_nil, Nat.le_refl _, fun _ h => by cases h⟩, fun _ _ _ _ _ => trivial, ?_, ?_⟩
    · rintro i d ρ' O' hi ⟨x, y, acc, rfl, rfl, ht, hn, ha, hv⟩
      rw [List.getElem?_map] at hi
      cases hr : l[i]? with
      | none => rw [hr] at hi; cases hi
      | some r =>
        rw [hr] at hi
        cases hi
        obtain ⟨nm, c⟩ := r
        have hlt : i < l.length := (List.getElem?_eq_some_iff.mp hr).1
        have ed : l.drop i = (nm, c) :: l.drop (i + 1) := by
          rw [List.drop_eq_getElem_cons hlt]
          rw [List.getElem?_eq_getElem hlt] at hr
          rw [Option.some.inj hr]
        rw [ed, told] at ht
        unfold rowD'
        have e1 : oput O p (.dic acc) p = some (.dic acc) := oput_same
        walk_at "vc"
        refine ⟨rfl, ?_⟩
        walk_at "vc"
        refine w_setdQ e1 rfl (show acc.length < 16777216 by omega) hn (fun d hd => ?_) fun hd => ?_
        · obtain ⟨c', hc'⟩ := hv _ (kget_mem hd)
          have hc2 : d = .int c' := hc'
          subst hc2
          rw [hd] at ht
          walk_at "vc"
          refine w_ifnd (fun e => ?_) fun e => ?_
          · walk_at "vc"
            subst e
            refine ⟨_, _, acc, rfl, rfl, ?_, hn, by omega, hv⟩
            simpa [deq] using ht
          · walk_at "vc"
            have e3 : told l [] = none := by rw [← ht]; simp [deq, e]
            rw [e3] at q
            exact w_qs (Sub.new hp) q
        · rw [hd] at ht
          walk_at "vc"
          refine w_ifnd (fun e => ?_) fun e => absurd rfl e
          walk_at "vc"
          refine ⟨_, _, kput acc (.s nm) (.int c), rfl, oput_oput, ht, kput_nodup hd hn, ?_, ?_⟩
          · rw [kput_new hd, List.length_append]; simp; omega
          · intro kv hkv
            rw [kput_new hd] at hkv
            rcases List.mem_append.mp hkv with h | h
            · exact hv kv h
            · rw [List.mem_singleton] at h
              subst h
              exact ⟨c, rfl⟩
    · rintro ρ' O' ⟨x, y, acc, rfl, rfl, ht, hn, ha, hv⟩
      walk_at "vc"
      refine w_frzO oput_same ?_
      rw [odel_oput hp]
      rw [List.length_map, List.drop_length] at ht
      rw [← ht] at q
      exact w_q q
/-! is_term, require_term -/
def sp_is_term (n : Nat) : DSp := fun ds O Q _ => ∃ d, ds = [d] ∧ typed d = true ∧ tdp d < n ∧ dsz d ≤ 100000 ∧ Q (.bl (isTD d)) O
abbrev N_is_term : List Str := ["value"]
theorem sc_is_term : FnScope N_is_term ["value"] (defScope s_is_term) := ⟨rfl, rfl, rfl, by decide +kernel, rfl, by decide +kernel, by decide +kernel⟩
theorem ok_is_term (F : FnP K "is_term" s_is_term f fd) (g : Gs K mg C) {n : Nat} (c_is_formed : DFn P w K mg base "is_formed" k (sp_is_formed n)) (c_place_rows : DFn P w K mg base "place_rows" k (sp_place_rows n)) (c_told_places : DFn P w K mg base "told_places" k sp_told_places)  : FnOk P w K mg base (CX P w) (k + 1) f fd ["value"] (liftF K (sp_is_term n)) := by
  refine okD2 (t := fun W => _) F sc_is_term ?_ (fun cdv A outer s H E F0 W tk hr => (dss_one (ds_ret (de_and (de_call c_is_formed hr (passD tk) rfl (da_cons (dv 0) da_nil)) (de_one (de_cmp op_notN l_notN (de_call c_told_places hr (passD tk) rfl (da_cons (de_call c_place_rows hr (passD tk) rfl (da_cons (dv 0) da_nil)) da_nil)) de_non rfl)))))) ?_
  · rintro ds O Q E ⟨t, rfl, _⟩; rfl
  · rintro ds O Q E ⟨d, rfl, h1, h2, h3, q⟩
    walk_at "vc"
    refine ⟨d, rfl, h1, h2, ?_⟩
    unfold isTD at q
    cases e : toTrm d with
    | none =>
      rw [e] at q
      walk_at "vc"
      show (if false = true then _ else _)
      walk_at "vc"
      exact w_q q
    | some t =>
      rw [e] at q
      obtain ⟨rfl, ok⟩ := toTrm_is _ _ e
      rw [tdp_tD] at h2
      rw [dsz_tD] at h3
      walk_at "vc"
      show (if true = true then _ else _)
      walk_at "vc"
      refine ⟨t, rfl, by omega, by omega, ?_⟩
      walk_at "vc"
      refine ⟨rowsT t, by rw [rowsT, List.map_map]; rfl, by rw [rowsT, List.length_map]; omega, ?_⟩
      have q2 : Q (.bl (told (rowsT t) []).isSome) O := q
      cases e : told (rowsT t) [] with
      | none => rw [e] at q2; unfold toldD; walk_at "vc"; exact w_q q2
      | some kds => rw [e] at q2; unfold toldD; walk_at "vc"; exact w_q q2
def sp_require_term {C : Str → Addr} (n : Nat) : DSp := fun ds O Q E => ∃ d, ds = [d] ∧ typed d = true ∧ tdp d < n ∧ dsz d ≤ 100000 ∧ (isTD d = true → Q .non O) ∧ (isTD d = false → E (.pl (.ref (C "InvalidTerm"))) O)
abbrev N_require_term : List Str := ["term"]
theorem sc_require_term : FnScope N_require_term ["term"] (defScope s_require_term) := ⟨rfl, rfl, rfl, by decide +kernel, rfl, by decide +kernel, by decide +kernel⟩
theorem ok_require_term (F : FnP K "require_term" s_require_term f fd) (g : Gs K mg C) {n : Nat} (c_is_term : DFn P w K mg base "is_term" k (sp_is_term n))  : FnOk P w K mg base (CX P w) (k + 1) f fd ["term"] (liftF K (sp_require_term (C := C) n)) := by
  refine okD2 (t := fun W => _) F sc_require_term ?_ (fun cdv A outer s H E F0 W tk hr => (dss_one (ds_if (dt_not (dt_val (de_call c_is_term hr (passD tk) rfl (da_cons (dv 0) da_nil)))) (dss_one (ds_raiseC rfl tk g.e_InvalidTerm rfl)) dss_nil))) ?_
  · rintro ds O Q E ⟨t, rfl, _⟩; rfl
  · rintro ds O Q E ⟨d, rfl, h1, h2, h3, q, qe⟩
    walk_at "vc"
    refine ⟨d, rfl, h1, h2, h3, ?_⟩
    walk_at "vc"
    cases e : isTD d with
    | true => walk_at "vc"; exact w_q (q e)
    | false => walk_at "vc"; exact w_e (qe e)
end
end K03

namespace DS
open PySem PySem.Spec PyProof.Rows L2
/-! ### a written dict: {'a': 1, 'b': 2} -/
def dPairs : List (DTE × DTE) → Env' → OS → (List (D × D) → OS → Prop) → Prop
  | [], _, O, Q => Q [] O
  | (tk, tv) :: r, ρ, O, Q => tk ρ O fun k O1 => tv ρ O1 fun v O2 => dPairs r ρ O2 fun ps O3 => Q ((k, v) :: ps) O3
def keyD'' (k : KD) : D := match k with
  | .i n => .int n
  | .s cs => .str cs
def dDisp (trs : List (DTE × DTE)) : DTE := fun ρ O Q => ∀ p, O p = none → dPairs trs ρ (oput O p (.dic [])) fun ps O2 => O2 p = some (.dic []) ∧ ∃ kds : List (KD × D), ps = kds.map (fun kd => (keyD'' kd.1, kd.2)) ∧ kds.length ≤ 15 ∧ Q (.atm (.ref p)) (oput O2 p (.dic (mergeD [] kds)))
inductive IsP (K : PySem.W.Frag) (F : Hp) : List (D × D) → List (V × V) → Prop
  | nil : IsP K F [] []
  | cons {a b : D} {v w : V} {ps : List (D × D)} {vs : List (V × V)} : Is K F a v → Is K F b w → IsP K F ps vs → IsP K F ((a, b) :: ps) ((v, w) :: vs)
theorem IsP.ext {K : PySem.W.Frag} {F G : Hp} (e : Ext F G) {ps : List (D × D)} {vs : List (V × V)} (h : IsP K F ps vs) : IsP K G ps vs := by
  induction h with
  | nil => exact .nil
  | cons a b _ ih => exact .cons (a.ext e) (b.ext e) ih
theorem lift_pairs {K : PySem.W.Frag} {F0 : Bs} {σ : L2.St} {ρ : Env'} : ∀ {trs : List (DTE × DTE)} {Z H F : Hp} {O : OS} {QD : List (D × D) → OS → Prop} {QH : List (V × V) → Hp → Prop}, At K F0 Z σ H ρ O F → dPairs trs ρ O QD →
    (∀ ps O1 F1 H1 vps, Rep K Z F1 H1 O1 → Ext F F1 → IsP K F1 ps vps → QD ps O1 → QH vps H1) → tPairs (trs.map fun t => (liftE K F0 t.1, liftE K F0 t.2)) σ H QH
  | [], Z, H, F, O, QD, QH, at_, h, c => c [] O F H [] at_.rep Ext.refl .nil h
  | (tk, tv) :: r, Z, H, F, O, QD, QH, at_, h, c => by
    refine ⟨Z, ρ, O, F, _, at_, h, fun d O1 F1 H1 v r1 e1 i1 h1 => ?_⟩
    refine ⟨Z, ρ, O1, F1, _, at_.step r1 e1, h1, fun d2 O2 F2 H2 v2 r2 e2 i2 h2 => ?_⟩
    refine lift_pairs (trs := r) (at_.step r2 (e1.trans e2)) h2 fun ps O3 F3 H3 vps r3 e3 i3 h3 => ?_
    exact c _ _ _ _ _ r3 (e1.trans (e2.trans e3)) (.cons (i1.ext (e2.trans e3)) (i2.ext e3) i3) h3
theorem isP_keys {K : PySem.W.Frag} {F : Hp} : ∀ {kds : List (KD × D)} {vps : List (V × V)}, IsP K F (kds.map fun kd => (keyD'' kd.1, kd.2)) vps → ∃ kvs : List (Key × V), vps = kvs.map (fun kv => (kV kv.1, kv.2)) ∧ IsK K F kds kvs ∧ kvs.length = kds.length
  | [], vps, h => by cases h; exact ⟨[], rfl, by simp only [IsK], rfl⟩
  | (k, d) :: r, [], h => by cases h
  | (k, d) :: r, (v, w) :: vs, h => by
    have hh : Is K F (keyD'' k) v ∧ Is K F d w ∧ IsP K F (r.map fun kd => (keyD'' kd.1, kd.2)) vs := by
      cases h with
      | cons a b c => exact ⟨a, b, c⟩
    obtain ⟨a, b, c⟩ := hh
    obtain ⟨kvs, rfl, i, l⟩ := isP_keys c
    cases k with
    | i n =>
      have a : v = .int n := by simpa only [keyD'', Is] using a
      subst a
      exact ⟨(kk (.i n), w) :: kvs, rfl, by simp only [IsK]; exact ⟨w, kvs, rfl, b, i, trivial⟩, by rw [List.length_cons, List.length_cons, l]⟩
    | s cs =>
      have a : v = .str (tx cs) ∧ Sz cs.length ∧ Cok cs := by simpa only [keyD'', Is] using a
      obtain ⟨a, a2⟩ := a
      subst a
      exact ⟨(kk (.s cs), w) :: kvs, rfl, by simp only [IsK]; exact ⟨w, kvs, rfl, b, i, a2⟩, by rw [List.length_cons, List.length_cons, l]⟩
section
variable {X : Cx} {F0 : Bs} {pos : Pos}
inductive DPs (X : Cx) (F0 : Bs) : List (Option Expr) → List Expr → List (DTE × DTE) → Prop
  | nil : DPs X F0 [] [] []
  | cons {k v : Expr} {ks : List (Option Expr)} {vs : List Expr} {tk tv : DTE} {ts : List (DTE × DTE)} : DE X F0 k tk → DE X F0 v tv → DPs X F0 ks vs ts → DPs X F0 (some k :: ks) (v :: vs) ((tk, tv) :: ts)
theorem DPs.pps {ks : List (Option Expr)} {vs : List Expr} {ts : List (DTE × DTE)} (h : DPs X F0 ks vs ts) : PPs X pos ks vs (ts.map fun t => (liftE X.K F0 t.1, liftE X.K F0 t.2)) := by
  induction h with
  | nil => exact pps_nil
  | cons a b _ ih => exact pps_cons a b ih
theorem DPs.all {ks : List (Option Expr)} {vs : List Expr} {ts : List (DTE × DTE)} (h : DPs X F0 ks vs ts) : (ks.all fun x => x.isSome) = true ∧ ks.length = vs.length := by
  induction h with
  | nil => exact ⟨rfl, rfl⟩
  | cons a b _ ih => exact ⟨by rw [List.all_cons, ih.1]; rfl, by rw [List.length_cons, List.length_cons, ih.2]⟩
theorem de_disp {ks : List (Option Expr)} {vs : List Expr} {ts : List (DTE × DTE)} (h : DPs X F0 ks vs ts) (h0 : ks ≠ [] := by exact List.cons_ne_nil _ _) (h15 : ks.length ≤ 15 := by show _ ≤ 15; decide) : DE X F0 (.Dict ks vs pos) (dDisp ts) := PE.imp (pe_disp h.pps h.all.1 h.all.2 h0 h15) fun σ H Q q p hp => by
  obtain ⟨Z, ρ, O, F, Qd, at_, q, cv⟩ := q
  have hO := (at_.rep.fresh hp).2
  have r0 : Rep X.K Z F (upd H p (.dK [])) (oput O p (.dic [])) := at_.rep.newO hp (Own.ofDic (by simp only [IsK]) (Nat.zero_le _))
  refine lift_pairs (at_.step r0 Ext.refl) (q p hO) fun ps O1 F1 H1 vps r1 e1 i1 h1 => ?_
  obtain ⟨hO1, kds, rfl, hl, h1⟩ := h1
  obtain ⟨kvs, rfl, ik, hl2⟩ := isP_keys i1
  have hH1 : H1 p = some (.dK []) := by
    obtain ⟨_, o, h2, h3⟩ := r1.own p _ hO1
    obtain ⟨vs, e, h4, _⟩ := h3
    simp only [IsK] at h4
    rw [h2, e, h4]
  refine ⟨hH1, kvs, rfl, by omega, ?_⟩
  have im := (merge_is (acc := []) (avs := []) ik List.nodup_nil (by simp only [IsK])).1
  refine cv _ _ _ _ _ (r1.chg hO1 (Own.ofDic im ?_)) e1 (by simp only [Is]) h1
  rw [← im.len]
  have := merge_len (l := kds) []
  simp only [List.length_nil] at this
  show _ ≤ 16777216
  omega
end
section
variable {p : Addr} {O : OS} {ρ : Env'} {Q : DQ}
theorem w_disp {trs : List (DTE × DTE)} (q : ∀ p, O p = none → dPairs trs ρ (oput O p (.dic [])) fun ps O2 => O2 p = some (.dic []) ∧ ∃ kds : List (KD × D), ps = kds.map (fun kd => (keyD'' kd.1, kd.2)) ∧ kds.length ≤ 15 ∧ Q (.atm (.ref p)) (oput O2 p (.dic (mergeD [] kds)))) : dDisp trs ρ O Q := q
theorem w_repr {d : D} (h : RepOk d) (q : Q (.atm (.str (rep d))) O) : bRepr [d] O Q := ⟨h, q⟩
theorem w_eqR {a b : Str} (q : Q (.bl (decide (a = b))) O) : cEqR (.atm (.str a)) (.atm (.str b)) O Q := q
theorem w_neR {a b : Str} (q : Q (.bl (!decide (a = b))) O) : cNeR (.atm (.str a)) (.atm (.str b)) O Q := q
end
end DS

namespace DS
open PySem PySem.Spec PyProof.Rows L2
/-! ### lists of anything against the empty list -/
def cEqE : DR2 := fun x y O Q => match x, y with
  | .lst xs, .lst [] => Q (.bl xs.isEmpty) O
  | _, _ => False
def cNeE : DR2 := fun x y O Q => match x, y with
  | .lst xs, .lst [] => Q (.bl (!xs.isEmpty)) O
  | _, _ => False
def rEqE (g : Bool → Bool) : R2 := fun x y H Q => ∃ a b vs, x = .ref a ∧ y = .ref b ∧ H a = some (.lst vs) ∧ H b = some (.lst []) ∧ Q (.bl (g vs.isEmpty)) H
theorem op_eqE {X : Cx} (hu : X.A.units + 200 < cLine) : OpR X (compareOp .Eq) (rEqE id) := by
  intro pins s σ H x y v u Q I rx ry h
  obtain ⟨a, b, vs, rfl, rfl, ha, hb, q⟩ := h
  cases rx; cases ry
  obtain ⟨its, rv, pa, _⟩ := I.list (.of ha)
  obtain ⟨its2, rv2, pb, _⟩ := I.list (.of hb)
  cases rv2
  have fin : EP X pins σ Q (.bool vs.isEmpty) s := ⟨.bl vs.isEmpty, H, I, rfl, q⟩
  cases vs with
  | nil =>
    cases rv
    exact SeqAt.RcAt.lists (e := fun _ => true) pa.isList pb.isList rfl (by omega) (fun j h1 _ => absurd h1 (by simp)) X.prog X.w X.xe _ fin
  | cons v r =>
    cases rv with
    | cons r1 r2 => exact SeqAt.RcAt.lists_lengths pa.isList pb.isList (by simp) (by omega) X.prog X.w X.xe _ fin
theorem op_neE {X : Cx} (hu : X.A.units + 200 < cLine) : OpR X (compareOp .NotEq) (rEqE not) := by
  intro pins s σ H x y v u Q I rx ry h
  obtain ⟨a, b, vs, rfl, rfl, ha, hb, q⟩ := h
  cases rx; cases ry
  obtain ⟨its, rv, pa, _⟩ := I.list (.of ha)
  obtain ⟨its2, rv2, pb, _⟩ := I.list (.of hb)
  cases rv2
  have fin : EP X pins σ Q (.bool (!vs.isEmpty)) s := ⟨.bl (!vs.isEmpty), H, I, rfl, q⟩
  cases vs with
  | nil =>
    cases rv
    exact SeqAt.RcNeAt.lists (e := fun _ => true) pa.isList pb.isList rfl (by omega) (fun j h1 _ => absurd h1 (by simp)) X.prog X.w X.xe _ fin
  | cons v r =>
    cases rv with
    | cons r1 r2 => exact SeqAt.RcNeAt.lists_lengths pa.isList pb.isList (by simp) (by omega) X.prog X.w X.xe _ fin
theorem iss_empty {K : PySem.W.Frag} {F : Hp} {xs : List D} {vs : List V} (h : Iss K F xs vs) : vs.isEmpty = xs.isEmpty := by
  have := h.len
  cases xs <;> cases vs <;> simp_all
theorem l_eqE {K : PySem.W.Frag} : Lop K cEqE (rEqE id) := fun x y O Qd Z F H vx vy Q r ix iy h c => by
  unfold cEqE at h
  split at h
  · obtain ⟨a, vs, rfl, h1, h2, _⟩ := ix
    obtain ⟨b, ws, rfl, h3, h4, _⟩ := iy
    simp only [Iss] at h4
    subst h4
    refine ⟨a, b, vs, rfl, rfl, h1, h3, c _ _ _ _ _ r Ext.refl Is.mkBl ?_⟩
    rw [iss_empty h2]; exact h
  · exact h.elim
theorem l_neE {K : PySem.W.Frag} : Lop K cNeE (rEqE not) := fun x y O Qd Z F H vx vy Q r ix iy h c => by
  unfold cNeE at h
  split at h
  · obtain ⟨a, vs, rfl, h1, h2, _⟩ := ix
    obtain ⟨b, ws, rfl, h3, h4, _⟩ := iy
    simp only [Iss] at h4
    subst h4
    refine ⟨a, b, vs, rfl, rfl, h1, h3, c _ _ _ _ _ r Ext.refl Is.mkBl ?_⟩
    rw [iss_empty h2]; exact h
  · exact h.elim
section
variable {xs ys : List D} {x : D} {O : OS} {Q : DQ} {g : Bool → Bool}
theorem w_eqEm (q : Q (.bl xs.isEmpty) O) : cEqE (.lst xs) (.lst []) O Q := q
theorem w_neEm (q : Q (.bl (!xs.isEmpty)) O) : cNeE (.lst xs) (.lst []) O Q := q
end
section
variable {tk tv : DTE} {r : List (DTE × DTE)} {ρ : Env'} {O : OS} {Q : List (D × D) → OS → Prop}
theorem w_pcons (q : tk ρ O fun k O1 => tv ρ O1 fun v O2 => dPairs r ρ O2 fun ps O3 => Q ((k, v) :: ps) O3) : dPairs ((tk, tv) :: r) ρ O Q := q
theorem w_pnil (q : Q [] O) : dPairs [] ρ O Q := q
end
end DS

namespace DS
open PySem PySem.Spec PyProof.Rows L2
/-! ### a dict by keys that tell their values -/
theorem w_setK {O : OS} {p : Addr} {kds : List (KD × D)} {y z : D} {kd : KD} {k : OS → Prop} (h : O p = some (.dic kds)) (hk : keyD y = some kd) (hl : kds.length < sizeLine) (hn : (kds.map (·.1)).Nodup) (q : k (oput O p (.dic (kput kds kd z)))) : setD O (.atm (.ref p)) y z k := by
  unfold setD
  simp only [h, hk]
  exact ⟨⟨hl, hn⟩, q⟩
theorem w_itD {O : OS} {kds : List (KD × D)} {R : DRI} (q : R (kds.map fun kv => keyData kv.1) kAny O) : anyQ (.dic kds) O R := q
section
variable {α : Type} {P : α → Prop} {kf : α → KD} {enc : α → D}
def kd (kf : α → KD) (enc : α → D) (us : List α) : List (KD × D) := us.map fun u => (kf u, enc u)
def InjOn (P : α → Prop) (kf : α → KD) : Prop := ∀ a b, P a → P b → kf a = kf b → a = b
theorem kd_keys (us : List α) : (kd kf enc us).map (·.1) = us.map kf := by unfold kd; rw [List.map_map]; rfl
theorem kd_nodup (h : InjOn P kf) {us : List α} (hp : ∀ u ∈ us, P u) (n : us.Nodup) : ((kd kf enc us).map (·.1)).Nodup := by
  rw [kd_keys]
  refine (List.pairwise_map.mpr ?_ : (us.map kf).Pairwise (· ≠ ·))
  refine List.Pairwise.imp_of_mem ?_ n
  intro a b ha hb hne e
  exact hne (h a b (hp a ha) (hp b hb) e)
theorem kd_get (h : InjOn P kf) : ∀ {us : List α}, (∀ u ∈ us, P u) → ∀ {a : α}, a ∈ us → kget (kd kf enc us) (kf a) = some (enc a)
  | [], _, a, ha => nomatch ha
  | u :: us, hp, a, ha => by
    show (if kf u = kf a then some (enc u) else kget (kd kf enc us) (kf a)) = some (enc a)
    by_cases e : kf u = kf a
    · rw [if_pos e, h u a (hp u List.mem_cons_self) (hp a ha) e]
    · rw [if_neg e]
      rcases List.mem_cons.mp ha with e2 | ha
      · subst e2; exact absurd rfl e
      · exact kd_get h (fun v hv => hp v (List.mem_cons_of_mem _ hv)) ha
theorem kd_put (h : InjOn P kf) {a : α} (pa : P a) : ∀ {us : List α}, (∀ u ∈ us, P u) → us.Nodup → ∃ vs : List α, kput (kd kf enc us) (kf a) (enc a) = kd kf enc vs ∧ vs.Nodup ∧ (∀ x, x ∈ vs ↔ x ∈ us ∨ x = a) ∧ vs.length ≤ us.length + 1
  | [], _, _ => ⟨[a], rfl, by simp, by simp, by simp⟩
  | u :: us, hp, n => by
    by_cases e : kf u = kf a
    · have e2 := h u a (hp u List.mem_cons_self) pa e
      subst e2
      refine ⟨u :: us, ?_, n, fun x => ⟨fun h => .inl h, fun h => ?_⟩, by omega⟩
      · show (if kf u = kf u then (kf u, enc u) :: kd kf enc us else _) = _
        rw [if_pos rfl]; rfl
      · rcases h with h | h
        · exact h
        · rw [h]; exact List.mem_cons_self
    · obtain ⟨n1, n2⟩ := List.nodup_cons.mp n
      obtain ⟨vs, h1, h2, h3, h4⟩ := kd_put h pa (us := us) (fun v hv => hp v (List.mem_cons_of_mem _ hv)) n2
      refine ⟨u :: vs, ?_, List.nodup_cons.mpr ⟨fun m => ?_, h2⟩, fun x => ?_, by rw [List.length_cons, List.length_cons]; omega⟩
      · show (if kf u = kf a then (kf u, enc a) :: kd kf enc us else (kf u, enc u) :: kput (kd kf enc us) (kf a) (enc a)) = _
        rw [if_neg e, h1]; rfl
      · rcases (h3 u).mp m with m | m
        · exact n1 m
        · exact e (by rw [m])
      · simp only [List.mem_cons, h3]
        constructor
        · rintro (h | h | h)
          · exact .inl (.inl h)
          · exact .inl (.inr h)
          · exact .inr h
        · rintro ((h | h) | h)
          · exact .inl h
          · exact .inr (.inl h)
          · exact .inr (.inr h)
end
/-! ### texts tell terms -/
theorem txt_inj {a b : Trm} (ha : a.ok = true) (hb : b.ok = true) (h : txt a = txt b) : a = b := by
  have h1 := (prs_full (2 * (txt a).length)).1 a [] ha (.inl rfl) (Nat.le_refl _)
  have h2 := (prs_full (2 * (txt a).length)).1 b [] hb (.inl rfl) (by rw [h]; exact Nat.le_refl _)
  rw [h] at h1 h2
  rw [h2] at h1
  injection h1 with h1
  injection h1 with h1
  exact h1.symm
def sgn (c : Nat) : Bool := ltr c || c == 40 || c == 41 || c == 44
theorem joinD_all {p : Nat → Bool} (hc : p 44 = true) : ∀ {xs : List (List Nat)}, (∀ x ∈ xs, x.all p = true) → (joinD [44] xs).all p = true
  | [], _ => rfl
  | [x], h => h x (by simp)
  | x :: y :: r, h => by
    show (x ++ ([44] ++ joinD [44] (y :: r))).all p = true
    rw [List.all_append, List.all_append, h x (by simp), joinD_all hc fun z hz => h z (List.mem_cons_of_mem _ hz)]
    simp [hc]
mutual
theorem txt_sgn : ∀ t : Trm, t.ok = true → (txt t).all sgn = true
  | .mk n ps, h => by
    rw [Trm.ok, Bool.and_eq_true, Bool.and_eq_true] at h
    obtain ⟨⟨h1, _⟩, h3⟩ := h
    have hn : n.all sgn = true := List.all_eq_true.mpr fun c hc => by
      unfold sgn; rw [(isNm_all h1).1 c hc]; rfl
    by_cases hp : ps = []
    · subst hp
      rw [txt]
      exact hn
    · rw [txt_cons hp, List.all_append, List.all_append, List.all_append, hn, joinD_all (p := sgn) (by decide) fun x hx => txts_sgn ps h3 x hx]
      decide
theorem txts_sgn : ∀ ts : List Trm, Trm.oks ts = true → ∀ x ∈ ts.map txt, x.all sgn = true
  | [], _, x, hx => nomatch hx
  | t :: ts, h, x, hx => by
    rw [Trm.oks, Bool.and_eq_true] at h
    rw [List.map_cons] at hx
    rcases List.mem_cons.mp hx with e | hx
    · rw [e]; exact txt_sgn t h.1
    · exact txts_sgn ts h.2 x hx
end
theorem split_at {c : Nat} : ∀ {a b x y : List Nat}, c ∉ a → c ∉ x → a ++ (c :: b) = x ++ (c :: y) → a = x ∧ b = y
  | [], b, [], y, _, _, h => ⟨rfl, (List.cons.inj h).2⟩
  | [], b, d :: x, y, _, h2, h => by
    have := (List.cons.inj h).1
    exact absurd (by rw [this]; exact List.mem_cons_self) h2
  | d :: a, b, [], y, h1, _, h => by
    have := (List.cons.inj h).1
    exact absurd (by rw [← this]; exact List.mem_cons_self) h1
  | d :: a, b, e :: x, y, h1, h2, h => by
    obtain ⟨e1, e2⟩ := List.cons.inj h
    obtain ⟨h3, h4⟩ := split_at (fun m => h1 (List.mem_cons_of_mem _ m)) (fun m => h2 (List.mem_cons_of_mem _ m)) e2
    exact ⟨by rw [e1, h3], h4⟩
def ptxt (p : Pr) : List Nat := txt p.1 ++ ([61] ++ txt p.2)
def POk (p : Pr) : Prop := p.1.ok = true ∧ p.2.ok = true
theorem ptxt_inj {p q : Pr} (hp : POk p) (hq : POk q) (h : ptxt p = ptxt q) : p = q := by
  have no : ∀ {t : Trm}, t.ok = true → 61 ∉ txt t := fun {t} ht m => by
    have := List.all_eq_true.mp (txt_sgn t ht) 61 m
    exact absurd this (by decide)
  obtain ⟨h1, h2⟩ := split_at (no hp.1) (no hq.1) h
  exact Prod.ext (txt_inj hp.1 hq.1 h1) (txt_inj hp.2 hq.2 h2)
theorem injT : InjOn (fun t : Trm => t.ok = true) (fun t => KD.s (txt t)) := fun a b ha hb h => txt_inj ha hb (KD.s.inj h)
theorem injP : InjOn POk (fun p => KD.s (ptxt p)) := fun a b ha hb h => ptxt_inj ha hb (KD.s.inj h)
/-- what is put together from a dict's values, ascending -/
theorem sort_distinct {α : Type} {enc : α → D} (o : OrdE enc) {us l : List α} (n : us.Nodup) (m : ∀ x, x ∈ us ↔ x ∈ l) : ∃ s, IsS enc s l ∧ sortD (us.map enc) = s.map enc := by
  obtain ⟨s, p, e, w⟩ := o.sort us
  exact ⟨s, ⟨o.strict w (p.nodup_iff.mpr n), fun a => (p.mem_iff).trans (m a)⟩, e⟩
end DS

namespace DS
open PySem PySem.Spec PyProof.Rows L2
theorem toTwo_tup2 (a b : D) : (toTwo (.tup [a, b])).isSome = (isTD a && isTD b) := by
  show (match toTrm a, toTrm b with
    | some s, some t => if isT s = true ∧ isT t = true then some (s, t) else none
    | _, _ => none).isSome = _
  unfold isTD
  cases toTrm a with
  | none => rfl
  | some s =>
    cases toTrm b with
    | none => simp
    | some t =>
      simp only
      cases isT s <;> cases isT t <;> rfl
theorem toTwo_not {d : D} (h : ∀ a b, d ≠ .tup [a, b]) : toTwo d = none := by
  unfold toTwo
  split
  · exact absurd rfl (h _ _)
  · rfl
theorem toTwo_len {xs : List D} (h : xs.length ≠ 2) : toTwo (.tup xs) = none := toTwo_not fun a b e => by cases e; exact h rfl
theorem toTwo_no {d : D} (h : isTupD d = false) : toTwo d = none := toTwo_not fun a b e => by subst e; cases h
theorem toPr_no {d : D} (h : toTwo d = none) : toPr d = none := by unfold toPr; rw [h]
theorem toPr_yes {d : D} {p : Pr} (h : toTwo d = some p) : (toPr d).isSome = prOk p := by
  unfold toPr; rw [h]; simp only
  cases prOk p <;> rfl
theorem typed_ok {d : D} (h : typed d = true) : atmOk d = true := by
  cases d with
  | atm v => simp [typed] at h
  | _ => rfl
theorem typed_pD (p : Pr) : typed (pD p) = true := by rw [pD, typed, typeds, typeds, typeds, typed_tD, typed_tD]; rfl
theorem dep_pD (p : Pr) : dep (pD p) = max (tdep p.1) (tdep p.2) + 1 := by
  rw [pD, dep, deps, deps, deps, dep_tD, dep_tD]; omega
theorem tdp_pD (p : Pr) : tdp (pD p) = 1 + max (tdep p.1) (tdep p.2) := by
  rw [pD, tdp, tdps, tdps, tdps, tdp_tD, tdp_tD]; omega
theorem dsz_pD (p : Pr) : dsz (pD p) = 1 + 2 * ((prTs p).flatMap subs).length := by
  rw [pD, dsz, dszs, dszs, dszs, dsz_tD, dsz_tD]
  simp only [prTs, List.flatMap_cons, List.flatMap_nil, List.length_append, List.length_nil]
  omega
theorem dszs_pD : ∀ ps : List Pr, dszs (ps.map pD) = ps.length + 2 * ((ps.flatMap prTs).flatMap subs).length
  | [] => rfl
  | p :: ps => by
    rw [List.map_cons, dszs, dsz_pD, dszs_pD ps, List.flatMap_cons, List.flatMap_append, List.length_append, List.length_cons]
    omega
theorem dsz_fD (f : Fct) : (prsOf f).length + 2 * ((fTs f).flatMap subs).length ≤ dsz (fD f) := by
  obtain ⟨ps, o⟩ := f
  unfold fD
  rw [dsz, dszs, dszs, dszs, dsz, dszs_pD]
  cases o with
  | none =>
    have e : prsOf (ps, none) = ps := by simp [prsOf]
    rw [fTs, e]
    simp only
    omega
  | some p =>
    have e : prsOf (ps, some p) = ps ++ [p] := by simp [prsOf]
    rw [fTs, e, List.flatMap_append, List.flatMap_append, List.length_append, List.length_append]
    have e2 : cD (some p) = pD p := rfl
    simp only [e2]
    rw [dsz_pD]
    simp only [List.flatMap_cons, List.flatMap_nil, List.append_nil, List.length_cons, List.length_nil]
    omega
theorem subs_mem {ts : List Trm} {t : Trm} (h : t ∈ ts) : (subs t).length ≤ (ts.flatMap subs).length := by
  obtain ⟨a, b, rfl⟩ := List.append_of_mem h
  rw [List.flatMap_append, List.flatMap_cons, List.length_append, List.length_append]
  omega
theorem subs_pos (t : Trm) : 1 ≤ (subs t).length := by cases t; rw [subs, List.length_append]; simp
theorem len_subs : ∀ ts : List Trm, ts.length ≤ (ts.flatMap subs).length
  | [] => Nat.zero_le _
  | t :: ts => by
    rw [List.flatMap_cons, List.length_append, List.length_cons]
    have := len_subs ts
    have := subs_pos t
    omega
theorem rows_len (ts : List Trm) : (ts.flatMap rowsT).length = (ts.flatMap subs).length := by
  induction ts with
  | nil => rfl
  | cons t ts ih => rw [List.flatMap_cons, List.flatMap_cons, List.length_append, List.length_append, ih, rowsT, List.length_map]
theorem zip_pD : ∀ ps qs : List Pr, zipD (ps.map pD) (qs.map pD) = (ps.zip qs).map fun q => .tup [pD q.1, pD q.2]
  | [], _ => by simp [zipD]
  | _ :: _, [] => by simp [zipD]
  | p :: ps, q :: qs => by
    have := zip_pD ps qs
    unfold zipD at this ⊢
    rw [List.map_cons, List.map_cons, List.zipWith_cons_cons, this]
    rfl
theorem ascB_zip (ps : List Pr) : ((ps.zip ps.tail).map fun q => ltE pD q.1 q.2).all id = ascB ps := by
  unfold ascB
  rw [List.map_zip_eq_zipWith]
  rfl
theorem toCds_tup (cs : List D) : (toCds (.tup cs)).isSome = (match toPrs cs with | some ps => ascB ps | none => false) := by
  show (match toPrs cs with
      | some ps => if ascB ps = true then some ps else none
      | none => none).isSome = _
  cases toPrs cs with
  | none => rfl
  | some ps =>
    simp only
    cases ascB ps <;> rfl
theorem toCds_no {d : D} (h : isTupD d = false) : toCds d = none := by
  cases d with
  | tup xs => cases h
  | _ => rfl
theorem toFct_not {d : D} (h : ∀ a b, d ≠ .tup [a, b]) : toFct d = none := by
  unfold toFct
  split
  · exact absurd rfl (h _ _)
  · rfl
theorem toFct_len {xs : List D} (h : xs.length ≠ 2) : toFct (.tup xs) = none := toFct_not fun a b e => by cases e; exact h rfl
theorem toFct_no {d : D} (h : isTupD d = false) : toFct d = none := toFct_not fun a b e => by subst e; cases h
theorem toFct_eq (c x : D) : toFct (.tup [c, x]) = (match toCds c with
    | some ps => match toCon x with
      | some o => if likes (fTs (ps, o)) = true then some (ps, o) else none
      | none => none
    | none => none) := rfl
theorem toFct_c {c x : D} (h : toCds c = none) : toFct (.tup [c, x]) = none := by rw [toFct_eq, h]
theorem toFct_x {c x : D} (h : toCon x = none) : toFct (.tup [c, x]) = none := by
  rw [toFct_eq]
  cases toCds c with
  | none => rfl
  | some ps => simp only [h]
theorem toFct_two {c x : D} {ps : List Pr} {o : Option Pr} (h : toCds c = some ps) (h2 : toCon x = some o) : (toFct (.tup [c, x])).isSome = likes (fTs (ps, o)) := by
  rw [toFct_eq]
  simp only [h, h2]
  cases likes (fTs (ps, o)) <;> rfl
theorem toCon_data {x : D} (h : isNonB x = false) : toCon x = (toPr x).map some := by unfold toCon; rw [h]; rfl
theorem isNonB_iff {x : D} (h : isNonB x = true) (ht : typed x = true) : x = .non := by
  cases x with
  | non => rfl
  | atm v => simp [typed] at ht
  | _ => cases h
end DS

namespace DS
open PySem PySem.Spec PyProof.Rows L2
/-! ### equal neighbours are left out -/
def sameB {α : Type} (enc : α → D) (a b : α) : Bool := deq (enc a) (enc b)
section
variable {α : Type} {enc : α → D}
def adj (enc : α → D) : Option α → List α → List α
  | _, [] => []
  | none, x :: r => x :: adj enc (some x) r
  | some y, x :: r => if sameB enc y x = true then adj enc (some x) r else x :: adj enc (some x) r
theorem adj_mem (o : OrdE enc) : ∀ (l : List α) (y : α) (x : α), x ∈ y :: adj enc (some y) l ↔ x ∈ y :: l
  | [], y, x => by simp [adj]
  | z :: l, y, x => by
    have ih := adj_mem o l z x
    unfold adj
    by_cases e : sameB enc y z = true
    · rw [if_pos e]
      have e2 := o.inj _ _ e
      subst e2
      rw [ih]
      simp
    · rw [if_neg e, List.mem_cons (b := y), ih, List.mem_cons (b := y)]
theorem adj_mem0 (o : OrdE enc) (l : List α) (x : α) : x ∈ adj enc none l ↔ x ∈ l := by
  cases l with
  | nil => rfl
  | cons y l => exact adj_mem o l y x
theorem adj_lt (o : OrdE enc) : ∀ (l : List α) (y : α), (y :: l).Pairwise (fun a b => ltE enc b a = false) → (y :: adj enc (some y) l).Pairwise (fun a b => ltE enc a b = true)
  | [], y, _ => by simp [adj]
  | z :: l, y, h => by
    obtain ⟨h1, h2⟩ := List.pairwise_cons.mp h
    have ih := adj_lt o l z h2
    unfold adj
    by_cases e : sameB enc y z = true
    · rw [if_pos e]
      have e2 := o.inj _ _ e
      subst e2
      exact ih
    · rw [if_neg e]
      have hyz : ltE enc y z = true := by
        cases c : ltE enc y z with
        | true => rfl
        | false =>
          have := o.tot c (h1 z List.mem_cons_self)
          subst this
          exact absurd (o.eq_iff.mpr rfl) e
      refine List.pairwise_cons.mpr ⟨fun c hc => ?_, ih⟩
      rcases List.mem_cons.mp hc with rfl | hc
      · exact hyz
      · exact o.tr hyz ((List.pairwise_cons.mp ih).1 c hc)
theorem adj_lt0 (o : OrdE enc) {l : List α} (h : l.Pairwise (fun a b => ltE enc b a = false)) : (adj enc none l).Pairwise (fun a b => ltE enc a b = true) := by
  cases l with
  | nil => exact List.Pairwise.nil
  | cons y l => exact adj_lt o l y h
/-- what is kept by looking at the place ahead -/
def keepAt (enc : α → D) (s : List α) (z : Nat × α) : Bool := z.1 == 0 || (match s[z.1 - 1]? with | some y => !sameB enc y z.2 | none => true)
theorem adj_zip (pre : List α) : ∀ (l : List α), (((List.range' pre.length l.length).zip l).filter (keepAt enc (pre ++ l))).map (·.2) = adj enc pre.getLast? l
  | [] => by simp [adj]
  | x :: l => by
    have ih := adj_zip (pre ++ [x]) l
    rw [List.length_append, List.length_cons, List.length_nil, Nat.zero_add, List.append_assoc, List.singleton_append] at ih
    rw [List.length_cons, List.range'_succ, List.zip_cons_cons, List.filter_cons]
    have hlast : (pre ++ [x]).getLast? = some x := by simp
    rw [hlast] at ih
    cases hp : pre.getLast? with
    | none =>
      have : pre = [] := List.getLast?_eq_none_iff.mp hp
      subst this
      have e : keepAt enc ([] ++ x :: l) (([] : List α).length, x) = true := rfl
      rw [if_pos e, List.map_cons]
      show _ = x :: adj enc (some x) l
      rw [← ih]
    | some y =>
      have hne : pre ≠ [] := fun z => by subst z; cases hp
      have hl : pre.length ≠ 0 := fun z => hne (List.eq_nil_of_length_eq_zero z)
      have hy : (pre ++ x :: l)[pre.length - 1]? = some y := by
        rw [List.getElem?_append_left (by omega), ← hp, List.getLast?_eq_getElem?]
      have e : keepAt enc (pre ++ x :: l) (pre.length, x) = !sameB enc y x := by
        unfold keepAt
        simp only [hy]
        have : (pre.length == 0) = false := by simpa using hl
        rw [this, Bool.false_or]
      rw [e]
      show _ = if sameB enc y x = true then adj enc (some x) l else x :: adj enc (some x) l
      cases sameB enc y x with
      | true =>
        rw [if_pos rfl, if_neg (by decide)]
        exact ih
      | false =>
        rw [if_pos (show (!false) = true from rfl), if_neg (show ¬ (false = true) by decide), List.map_cons]
        rw [← ih]
theorem adj_zip0 (l : List α) : (((List.range l.length).zip l).filter (keepAt enc l)).map (·.2) = adj enc none l := by
  have := adj_zip (enc := enc) [] l
  rw [List.range_eq_range']
  exact this
end
/-! ### pairs put in order -/
def neqP (p : Pr) : Bool := !deq (tD p.1) (tD p.2)
def ordq (p : Pr) : Pr := ordp p.1 p.2
def rawP (raw : List Pr) : List Pr := (raw.filter neqP).map ordq
theorem neqP_iff {p : Pr} : neqP p = true ↔ p.1 ≠ p.2 := by
  unfold neqP
  rw [Bool.not_eq_true', ← Bool.not_eq_true]
  exact not_congr ordT.eq_iff
theorem ordp_mem (a b : Trm) : prTs (ordp a b) = [a, b] ∨ prTs (ordp a b) = [b, a] := by
  unfold ordp
  by_cases h : ltE tD a b = true
  · rw [if_pos h]; exact .inl rfl
  · rw [if_neg h]; exact .inr rfl
theorem ordp_lt {a b : Trm} (h : a ≠ b) : ltE tD (ordp a b).1 (ordp a b).2 = true := by
  unfold ordp
  by_cases c : ltE tD a b = true
  · rw [if_pos c]; exact c
  · rw [if_neg c]
    cases e : ltE tD b a with
    | true => rfl
    | false => exact absurd (ordT.tot (by simpa using c) e) h
theorem ordp_comm {a b : Trm} : ordp a b = ordp b a := by
  by_cases h : a = b
  · rw [h]
  · unfold ordp
    cases c : ltE tD a b with
    | true => rw [if_pos rfl, if_neg (by rw [ordT.asym c]; decide)]
    | false =>
      rw [if_neg (by decide)]
      cases e : ltE tD b a with
      | true => rw [if_pos rfl]
      | false => exact absurd (ordT.tot c e) h
theorem ordp_id {a b : Trm} (h : ltE tD a b = true) : ordp a b = (a, b) := by unfold ordp; rw [if_pos h]
theorem ordq_ok {p : Pr} (h : POk p) : POk (ordq p) := by
  unfold ordq ordp
  by_cases c : ltE tD p.1 p.2 = true
  · rw [if_pos c]; exact h
  · rw [if_neg c]; exact ⟨h.2, h.1⟩
theorem w_gtpP {ρ : Env'} {O : OS} {Qn : Env' → OS → Prop} {i j : Nat} {p : Pr} (q : Qn (puts ρ [i, j] [tD p.1, tD p.2]) O) : gTp [i, j] (pD p) ρ O Qn := ⟨rfl, q⟩
section
variable {O : OS} {Q : DQ} {R : DRI} {p : Pr} {k : D → Prop}
theorem w_vp (q : k (pD p)) : Vw O (pD p) k := q
theorem w_atP0 (q : Q (tD p.1) O) : gIx (pD p) (.int 0) O Q := w_atT atI_head q
theorem w_atP1 (q : Q (tD p.2) O) : gIx (pD p) (.int 1) O Q := w_atT atI_one q
theorem w_isNP (q : Q (.bl false) O) : cIsN' (pD p) .non O Q := ⟨rfl, q⟩
theorem w_notNP (q : Q (.bl true) O) : cNotN' (pD p) .non O Q := ⟨rfl, q⟩
theorem w_isNN (q : Q (.bl true) O) : cIsN' .non .non O Q := ⟨rfl, q⟩
theorem w_notNN (q : Q (.bl false) O) : cNotN' .non .non O Q := ⟨rfl, q⟩
theorem w_itP (q : R [tD p.1, tD p.2] kAny O) : anyQ (pD p) O R := q
end
end DS

namespace DS
open PySem PySem.Spec PyProof.Rows L2
theorem told_mem : ∀ (l : List (List Nat × Int)) (acc out : List (KD × D)), told l acc = some out → (acc.map (·.1)).Nodup → (∀ k d, (k, d) ∈ acc → ∃ n c, k = .s n ∧ d = .int c) →
    (out.map (·.1)).Nodup ∧ ∀ k d, (k, d) ∈ out ↔ (k, d) ∈ acc ∨ ∃ r ∈ l, k = .s r.1 ∧ d = .int r.2
  | [], acc, out, h, n, _ => by cases h; exact ⟨n, fun k d => by simp⟩
  | (nm, c) :: l, acc, out, h, n, hv => by
    unfold told at h
    cases e : kget acc (.s nm) with
    | some d =>
      rw [e] at h
      simp only at h
      obtain ⟨n', c', e1, e2⟩ := hv _ _ (kget_mem e)
      split at h
      · rename_i c2
        obtain ⟨h1, h2⟩ := told_mem l acc out h n hv
        have hd : d = .int c := by
          rw [e2] at c2 ⊢
          rw [deq] at c2
          rw [eq_of_beq c2]
        refine ⟨h1, fun k d' => ?_⟩
        rw [h2]
        constructor
        · rintro (h | ⟨r, hr, e⟩)
          · exact .inl h
          · exact .inr ⟨r, List.mem_cons_of_mem _ hr, e⟩
        · rintro (h | ⟨r, hr, e3, e4⟩)
          · exact .inl h
          · rcases List.mem_cons.mp hr with e5 | hr
            · subst e5
              refine .inl ?_
              rw [e3, e4, ← hd]
              exact kget_mem e
            · exact .inr ⟨r, hr, e3, e4⟩
      · cases h
    | none =>
      rw [e] at h
      simp only at h
      obtain ⟨h1, h2⟩ := told_mem l _ out h (kput_nodup e n) (fun k d hm => by
        rw [kput_new e] at hm
        rcases List.mem_append.mp hm with hm | hm
        · exact hv k d hm
        · simp only [List.mem_singleton] at hm
          injection hm with a b
          exact ⟨nm, c, a, b⟩)
      refine ⟨h1, fun k d' => ?_⟩
      rw [h2, kput_new e]
      constructor
      · rintro (h | ⟨r, hr, e⟩)
        · rcases List.mem_append.mp h with h | h
          · exact .inl h
          · simp only [List.mem_singleton] at h
            injection h with a b
            exact .inr ⟨(nm, c), List.mem_cons_self, a, b⟩
        · exact .inr ⟨r, List.mem_cons_of_mem _ hr, e⟩
      · rintro (h | ⟨r, hr, e3, e4⟩)
        · exact .inl (List.mem_append.mpr (.inl h))
        · rcases List.mem_cons.mp hr with e5 | hr
          · subst e5
            refine .inl (List.mem_append.mpr (.inr ?_))
            rw [e3, e4]
            exact List.mem_singleton.mpr rfl
          · exact .inr ⟨r, hr, e3, e4⟩
theorem merge_app : ∀ (l acc : List (KD × D)), ((acc ++ l).map (·.1)).Nodup → mergeD acc l = acc ++ l
  | [], acc, _ => by rw [List.append_nil]; rfl
  | x :: l, acc, h => by
    have hn : kget acc x.1 = none := by
      refine kget_none fun m => ?_
      rw [List.map_append, List.map_cons] at h
      exact (List.nodup_append.mp h).2.2 _ m _ List.mem_cons_self rfl
    show mergeD (kput acc x.1 x.2) l = _
    rw [kput_new hn, merge_app l _ (by rw [List.append_assoc]; exact h), List.append_assoc]
    rfl
theorem merge_nil {l : List (KD × D)} (h : (l.map (·.1)).Nodup) : mergeD [] l = l := merge_app l [] h
theorem kget_of {κ : Type} [DecidableEq κ] : ∀ {ds : List (κ × D)} {k : κ} {d : D}, (ds.map (·.1)).Nodup → (k, d) ∈ ds → kget ds k = some d
  | (k', d') :: ds, k, d, n, h => by
    obtain ⟨n1, n2⟩ := List.nodup_cons.mp n
    unfold kget
    rcases List.mem_cons.mp h with e | h
    · cases e; rw [if_pos rfl]
    · rw [if_neg, kget_of n2 h]
      rintro rfl
      exact n1 (List.mem_map.mpr ⟨_, h, rfl⟩)
/-! ### places -/
def NPl (ts : List Trm) (k : KD) (d : D) : Prop := ∃ t ∈ ts, k = .s t.nm ∧ d = .int t.ps.length
def PlD (ts : List Trm) (kds : List (KD × D)) : Prop := (∃ ns : List (List Nat), kds.map (·.1) = ns.map KD.s ∧ ns.Pairwise (fun a b => ltE D.str a b = true)) ∧ ∀ k d, (k, d) ∈ kds ↔ NPl ts k d
theorem s_nodup {ns : List (List Nat)} (h : ns.Nodup) : (ns.map KD.s).Nodup := by
  refine (List.pairwise_map.mpr ?_ : (ns.map KD.s).Pairwise (· ≠ ·))
  exact h.imp fun h e => h (KD.s.inj e)
theorem PlD.nodup {ts : List Trm} {kds : List (KD × D)} (h : PlD ts kds) : (kds.map (·.1)).Nodup := by
  obtain ⟨⟨ns, e, p⟩, _⟩ := h
  rw [e]
  exact s_nodup (ordN.nodup p)
theorem told_pl {ts : List Trm} {kds : List (KD × D)} (h : told (ts.flatMap rowsT) [] = some kds) : (kds.map (·.1)).Nodup ∧ ∀ k d, (k, d) ∈ kds ↔ NPl (ts.flatMap subs) k d := by
  obtain ⟨h1, h2⟩ := told_mem _ _ _ h List.nodup_nil (fun _ _ z => nomatch z)
  refine ⟨h1, fun k d => (h2 k d).trans ?_⟩
  constructor
  · rintro (z | ⟨r, hr, e1, e2⟩)
    · cases z
    · obtain ⟨t, ht, hr⟩ := List.mem_flatMap.mp hr
      obtain ⟨s, hs, rfl⟩ := List.mem_map.mp hr
      exact ⟨s, List.mem_flatMap.mpr ⟨t, ht, hs⟩, e1, e2⟩
  · rintro ⟨s, hs, e1, e2⟩
    obtain ⟨t, ht, hs⟩ := List.mem_flatMap.mp hs
    exact .inr ⟨rowT s, List.mem_flatMap.mpr ⟨t, ht, List.mem_map.mpr ⟨s, hs, rfl⟩⟩, e1, e2⟩
theorem likes_mem {a b : List Trm} (h : ∀ t, t ∈ a ↔ t ∈ b) : likes a = likes b := by
  have go : ∀ {a b : List Trm}, (∀ t, t ∈ b → t ∈ a) → likes a = true → likes b = true := fun {a b} h => by
    unfold likes
    rw [told_like _ _ (fun k d h => by cases h), told_like _ _ (fun k d h => by cases h)]
    have sub : ∀ r ∈ b.flatMap rowsT, r ∈ a.flatMap rowsT := fun r hr => by
      obtain ⟨t, ht, hr⟩ := List.mem_flatMap.mp hr
      exact List.mem_flatMap.mpr ⟨t, h t ht, hr⟩
    rintro ⟨h1, h2⟩
    exact ⟨fun x hx y hy => h1 x (sub x hx) y (sub y hy), fun x hx c hc => h2 x (sub x hx) c hc⟩
  cases e : likes a with
  | true => rw [go (fun t ht => (h t).mpr ht) e]
  | false =>
    cases e2 : likes b with
    | false => rfl
    | true => rw [go (fun t ht => (h t).mp ht) e2] at e; cases e
/-- a fact, not too great -/
def GF (n : Nat) (g : Fct) : Prop := toFct (fD g) = some g ∧ (∀ p ∈ prsOf g, tdep p.1 ≤ n ∧ tdep p.2 ≤ n) ∧ dsz (fD g) ≤ 60000
theorem typed_fD (g : Fct) : typed (fD g) = true := by
  obtain ⟨ps, o⟩ := g
  unfold fD
  have h1 : typeds (ps.map pD) = true := typeds_all.mpr fun x hx => by
    obtain ⟨p, _, rfl⟩ := List.mem_map.mp hx
    exact typed_pD p
  have h2 : typed (cD o) = true := by
    cases o with
    | none => rfl
    | some p => exact typed_pD p
  show (typeds (ps.map pD) && (typed (cD o) && true)) = true
  rw [h1, h2]
  rfl
theorem tdp_fD {n : Nat} {g : Fct} (h : ∀ p ∈ prsOf g, tdep p.1 ≤ n ∧ tdep p.2 ≤ n) : tdp (fD g) ≤ n + 3 := by
  obtain ⟨ps, o⟩ := g
  unfold fD
  have h1 : tdps (ps.map pD) ≤ n + 1 := tdps_le.mpr fun x hx => by
    obtain ⟨p, hp, rfl⟩ := List.mem_map.mp hx
    rw [tdp_pD]
    have := h p (List.mem_append.mpr (.inl hp))
    omega
  have h2 : tdp (cD o) ≤ n + 1 := by
    cases o with
    | none => exact Nat.zero_le _
    | some p =>
      rw [show cD (some p) = pD p from rfl, tdp_pD]
      have := h p (List.mem_append.mpr (.inr (by simp)))
      omega
  rw [tdp, tdps, tdps, tdps, tdp]
  show 1 + max (1 + tdps (ps.map pD)) (max (tdp (cD o)) 0) ≤ n + 3
  omega
theorem GF.tdp {n : Nat} {g : Fct} (h : GF n g) : ∀ p ∈ prsOf g, tdep p.1 ≤ n ∧ tdep p.2 ≤ n := h.2.1
theorem GF.okP {n : Nat} {g : Fct} (h : GF n g) : ∀ p ∈ prsOf g, p.1.ok = true ∧ p.2.ok = true ∧ isT p.1 = true ∧ isT p.2 = true ∧ prOk p = true := fun p hp => by
  obtain ⟨_, h2, _⟩ := toFct_is h.1
  obtain ⟨h3, h4⟩ := toPr_is (h2 p hp)
  obtain ⟨_, a, b, c, d⟩ := toTwo_is h3
  exact ⟨a, b, c, d, h4⟩
theorem GF.sum {n : Nat} {g : Fct} (h : GF n g) : (prsOf g).length + 2 * ((fTs g).flatMap subs).length ≤ 60000 := Nat.le_trans (dsz_fD g) h.2.2
theorem GF.fTs {n : Nat} {g : Fct} (h : GF n g) : ∀ t ∈ fTs g, t.ok = true ∧ tdep t ≤ n ∧ isT t = true := fun t ht => by
  obtain ⟨p, hp, ht⟩ := List.mem_flatMap.mp ht
  have h1 := h.tdp p hp
  obtain ⟨a, b, c, d, _⟩ := h.okP p hp
  simp only [prTs, List.mem_cons, List.not_mem_nil, or_false] at ht
  rcases ht with rfl | rfl
  · exact ⟨a, h1.1, c⟩
  · exact ⟨b, h1.2, d⟩
theorem sum_nodup : ∀ {s l : List Trm}, s.Nodup → (∀ a ∈ s, a ∈ l) → (s.flatMap subs).length ≤ (l.flatMap subs).length
  | [], l, _, _ => Nat.zero_le _
  | a :: s, l, n, h => by
    obtain ⟨n1, n2⟩ := List.nodup_cons.mp n
    obtain ⟨l1, l2, rfl⟩ := List.append_of_mem (h a List.mem_cons_self)
    have ih := sum_nodup (s := s) (l := l1 ++ l2) n2 fun x hx => by
      have := h x (List.mem_cons_of_mem _ hx)
      simp only [List.mem_append, List.mem_cons] at this ⊢
      rcases this with h | h | h
      · exact .inl h
      · subst h; exact absurd hx n1
      · exact .inr h
    rw [List.flatMap_append, List.length_append] at ih
    rw [List.flatMap_cons, List.flatMap_append, List.flatMap_cons, List.length_append, List.length_append, List.length_append]
    omega
theorem len_nodup : ∀ {s l : List Trm}, s.Nodup → (∀ a ∈ s, a ∈ l) → s.length ≤ l.length
  | [], l, _, _ => Nat.zero_le _
  | a :: s, l, n, h => by
    obtain ⟨n1, n2⟩ := List.nodup_cons.mp n
    obtain ⟨l1, l2, rfl⟩ := List.append_of_mem (h a List.mem_cons_self)
    have ih := len_nodup (s := s) (l := l1 ++ l2) n2 fun x hx => by
      have := h x (List.mem_cons_of_mem _ hx)
      simp only [List.mem_append, List.mem_cons] at this ⊢
      rcases this with h | h | h
      · exact .inl h
      · subst h; exact absurd hx n1
      · exact .inr h
    rw [List.length_append] at ih
    rw [List.length_append, List.length_cons, List.length_cons]
    omega
theorem keys_str : ∀ {kds : List (KD × D)}, (∀ k d, (k, d) ∈ kds → ∃ n, k = .s n) → ∃ ns : List (List Nat), kds.map (·.1) = ns.map KD.s ∧ (kds.map fun kd => keyData' kd.1) = ns.map D.str
  | [], _ => ⟨[], rfl, rfl⟩
  | (k, d) :: r, h => by
    obtain ⟨n, rfl⟩ := h k d List.mem_cons_self
    obtain ⟨ns, e1, e2⟩ := keys_str (kds := r) fun k d hm => h k d (List.mem_cons_of_mem _ hm)
    exact ⟨n :: ns, by rw [List.map_cons, e1]; rfl, by rw [List.map_cons, e2]; rfl⟩
end DS

namespace DS
open PySem PySem.Spec PyProof.Rows L2
/-! ### a subterm put in the place of another -/
mutual
def tput (old new : Trm) : Trm → Trm
  | .mk n ps => if deq (tD (.mk n ps)) (tD old) = true then new else .mk n (tputs old new ps)
def tputs (old new : Trm) : List Trm → List Trm
  | [] => []
  | t :: ts => tput old new t :: tputs old new ts
end
theorem tputs_eq (old new : Trm) : ∀ ts : List Trm, tputs old new ts = ts.map (tput old new)
  | [] => rfl
  | t :: ts => by rw [tputs, tputs_eq old new ts]; rfl
section
variable {old new : Trm}
theorem tput_yes {t : Trm} (h : deq (tD t) (tD old) = true) : tput old new t = new := by cases t; rw [tput, if_pos h]
theorem tput_no {n : List Nat} {ps : List Trm} (h : deq (tD (.mk n ps)) (tD old) = false) : tput old new (.mk n ps) = .mk n (ps.map (tput old new)) := by rw [tput, if_neg (by rw [h]; decide), tputs_eq]
mutual
theorem tput_ok (h : new.ok = true) : ∀ t : Trm, t.ok = true → (tput old new t).ok = true
  | .mk n ps, ht => by
    rw [tput]
    split
    · exact h
    · rw [Trm.ok, Bool.and_eq_true, Bool.and_eq_true] at ht ⊢
      exact ⟨⟨ht.1.1, by rw [tputs_eq, List.length_map]; exact ht.1.2⟩, tputs_ok h ps ht.2⟩
theorem tputs_ok (h : new.ok = true) : ∀ ts : List Trm, Trm.oks ts = true → Trm.oks (tputs old new ts) = true
  | [], _ => rfl
  | t :: ts, ht => by
    rw [Trm.oks, Bool.and_eq_true] at ht
    rw [tputs, Trm.oks, tput_ok h t ht.1, tputs_ok h ts ht.2]; rfl
end
mutual
theorem tput_dep : ∀ t : Trm, tdep (tput old new t) ≤ tdep t + tdep new
  | .mk n ps => by
    rw [tput]
    split
    · omega
    · rw [tdep, tdep]
      have := tputs_dep ps
      omega
theorem tputs_dep : ∀ ts : List Trm, tdeps (tputs old new ts) ≤ tdeps ts + tdep new
  | [] => by rw [tputs, tdeps]; omega
  | t :: ts => by
    rw [tputs, tdeps, tdeps]
    have := tput_dep t
    have := tputs_dep ts
    omega
end
mutual
theorem tput_len : ∀ t : Trm, (subs (tput old new t)).length ≤ (subs t).length * (subs new).length
  | .mk n ps => by
    have hp : 1 ≤ (subs new).length := by cases new; rw [subs, List.length_append]; simp
    rw [tput]
    split
    · rw [subs, List.length_append, List.length_singleton, Nat.add_mul]
      omega
    · rw [subs, subs, List.length_append, List.length_append, List.length_singleton, List.length_singleton, Nat.add_mul]
      have := tputs_len ps
      omega
theorem tputs_len : ∀ ts : List Trm, (subss (tputs old new ts)).length ≤ (subss ts).length * (subs new).length
  | [] => by rw [tputs, subss]; simp
  | t :: ts => by
    rw [tputs, subss, subss, List.length_append, List.length_append, Nat.add_mul]
    have := tput_len t
    have := tputs_len ts
    omega
end
mutual
theorem tput_rows {R : List Nat × Int → Prop} (h : ∀ s ∈ subs new, R (rowT s)) : ∀ t : Trm, (∀ s ∈ subs t, R (rowT s)) → ∀ s ∈ subs (tput old new t), R (rowT s)
  | .mk n ps, ht => by
    rw [tput]
    split
    · exact h
    · intro s hs
      rw [subs] at hs
      rw [subs] at ht
      rcases List.mem_append.mp hs with hs | hs
      · exact tputs_rows h ps (fun s hs => ht s (List.mem_append.mpr (.inl hs))) s hs
      · rw [List.mem_singleton] at hs
        subst hs
        have e : rowT (.mk n (tputs old new ps)) = rowT (.mk n ps) := by
          unfold rowT
          simp only [Trm.nm, Trm.ps, tputs_eq, List.length_map]
        rw [e]
        exact ht _ (List.mem_append.mpr (.inr (List.mem_singleton.mpr rfl)))
theorem tputs_rows {R : List Nat × Int → Prop} (h : ∀ s ∈ subs new, R (rowT s)) : ∀ ts : List Trm, (∀ s ∈ subss ts, R (rowT s)) → ∀ s ∈ subss (tputs old new ts), R (rowT s)
  | [], _ => by rw [tputs, subss]; intro s hs; cases hs
  | t :: ts, ht => by
    rw [subss] at ht
    rw [tputs, subss]
    intro s hs
    rcases List.mem_append.mp hs with hs | hs
    · exact tput_rows h t (fun s hs => ht s (List.mem_append.mpr (.inl hs))) s hs
    · exact tputs_rows h ts (fun s hs => ht s (List.mem_append.mpr (.inr hs))) s hs
end
end
/-! ### other names -/
mutual
def tren (r : List Nat → List Nat) : Trm → Trm
  | .mk n ps => .mk (r n) (trens r ps)
def trens (r : List Nat → List Nat) : List Trm → List Trm
  | [] => []
  | t :: ts => tren r t :: trens r ts
end
theorem trens_eq (r : List Nat → List Nat) : ∀ ts : List Trm, trens r ts = ts.map (tren r)
  | [] => rfl
  | t :: ts => by rw [trens, trens_eq r ts]; rfl
section
variable {r q : List Nat → List Nat}
mutual
theorem tren_same : ∀ t : Trm, (∀ s ∈ subs t, r s.nm = q s.nm) → tren r t = tren q t
  | .mk n ps, h => by
    rw [subs] at h
    rw [tren, tren, trens_same ps fun s hs => h s (List.mem_append.mpr (.inl hs)), h (.mk n ps) (List.mem_append.mpr (.inr (List.mem_singleton.mpr rfl))) |> fun (e : r n = q n) => e]
theorem trens_same : ∀ ts : List Trm, (∀ s ∈ subss ts, r s.nm = q s.nm) → trens r ts = trens q ts
  | [], _ => rfl
  | t :: ts, h => by
    rw [subss] at h
    rw [trens, trens, tren_same t fun s hs => h s (List.mem_append.mpr (.inl hs)), trens_same ts fun s hs => h s (List.mem_append.mpr (.inr hs))]
end
mutual
theorem tren_dep : ∀ t : Trm, tdep (tren r t) = tdep t
  | .mk n ps => by rw [tren, tdep, tdep, trens_dep ps]
theorem trens_dep : ∀ ts : List Trm, tdeps (trens r ts) = tdeps ts
  | [] => rfl
  | t :: ts => by rw [trens, tdeps, tdeps, tren_dep t, trens_dep ts]
end
mutual
theorem tren_id : ∀ t : Trm, (∀ s ∈ subs t, r s.nm = s.nm) → tren r t = t
  | .mk n ps, h => by
    rw [subs] at h
    rw [tren, trens_id ps fun s hs => h s (List.mem_append.mpr (.inl hs)), h (.mk n ps) (List.mem_append.mpr (.inr (List.mem_singleton.mpr rfl))) |> fun (e : r n = n) => e]
theorem trens_id : ∀ ts : List Trm, (∀ s ∈ subss ts, r s.nm = s.nm) → trens r ts = ts
  | [], _ => rfl
  | t :: ts, h => by
    rw [subss] at h
    rw [trens, tren_id t fun s hs => h s (List.mem_append.mpr (.inl hs)), trens_id ts fun s hs => h s (List.mem_append.mpr (.inr hs))]
end
end
/-- a dict from texts to texts -/
def nmK (ns : List (List Nat × List Nat)) : List (KD × D) := ns.map fun p => (KD.s p.1, D.str p.2)
def rnm : List (List Nat × List Nat) → List Nat → List Nat
  | [], n => n
  | p :: ns, n => if p.1 = n then p.2 else rnm ns n
theorem nmK_get : ∀ (ns : List (List Nat × List Nat)) (n : List Nat), (kget (nmK ns) (.s n)).getD (.str n) = .str (rnm ns n)
  | [], n => rfl
  | p :: ns, n => by
    unfold rnm nmK
    rw [List.map_cons]
    unfold kget
    by_cases e : p.1 = n
    · rw [if_pos e, if_pos (by rw [e])]; rfl
    · rw [if_neg e, if_neg fun z => e (KD.s.inj z)]
      exact nmK_get ns n
theorem nmK_at {ns : List (List Nat × List Nat)} {n : List Nat} (h : n ∈ ns.map (·.1)) : kget (nmK ns) (.s n) = some (.str (rnm ns n)) := by
  have h1 := nmK_get ns n
  cases e : kget (nmK ns) (.s n) with
  | some d => rw [e] at h1; exact congrArg some h1
  | none =>
    refine absurd ?_ (kget_notin e)
    obtain ⟨p, hp, rfl⟩ := List.mem_map.mp h
    unfold nmK
    rw [List.map_map]
    exact List.mem_map.mpr ⟨p, hp, rfl⟩
theorem rnm_in : ∀ (ns : List (List Nat × List Nat)) (n : List Nat), rnm ns n = n ∨ rnm ns n ∈ ns.map (·.2)
  | [], n => .inl rfl
  | p :: ns, n => by
    unfold rnm
    split
    · exact .inr (by rw [List.map_cons]; exact List.mem_cons_self)
    · exact (rnm_in ns n).imp id fun h => by rw [List.map_cons]; exact List.mem_cons_of_mem _ h
theorem rnm_map {f : List Nat → List Nat} : ∀ {l : List (List Nat)} {n : List Nat}, n ∈ l → rnm (l.map fun n => (n, f n)) n = f n
  | a :: l, n, h => by
    rw [List.map_cons]
    unfold rnm
    by_cases e : a = n
    · rw [if_pos e, e]
    · rw [if_neg e]
      rcases List.mem_cons.mp h with h | h
      · exact absurd h.symm e
      · exact rnm_map h
theorem nmK_keys (ns : List (List Nat × List Nat)) : (nmK ns).map (·.1) = (ns.map (·.1)).map KD.s := by unfold nmK; rw [List.map_map, List.map_map]; rfl
theorem nmK_nodup {ns : List (List Nat × List Nat)} (h : (ns.map (·.1)).Nodup) : ((nmK ns).map (·.1)).Nodup := by rw [nmK_keys]; exact s_nodup h
/-- names that stay different -/
def injT' (r : List Nat → List Nat) (t : Trm) : Prop := ∀ a ∈ subs t, ∀ b ∈ subs t, r a.nm = r b.nm → a.nm = b.nm
theorem nodup_mapT {r : List Nat → List Nat} {t : Trm} {ns : List (List Nat)} (nd : ns.Nodup) (m : ∀ x, x ∈ ns ↔ x ∈ (subs t).map Trm.nm) : (ns.map r).Nodup ↔ injT' r t := by
  constructor
  · intro h a ha b hb e
    have h1 := (m a.nm).mpr (List.mem_map.mpr ⟨a, ha, rfl⟩)
    have h2 := (m b.nm).mpr (List.mem_map.mpr ⟨b, hb, rfl⟩)
    refine Classical.byContradiction fun ne => ?_
    clear m ha hb nd
    generalize a.nm = x at *
    generalize b.nm = y at *
    induction ns with
    | nil => cases h1
    | cons z ns ih =>
      rw [List.map_cons, List.nodup_cons] at h
      rcases List.mem_cons.mp h1 with e1 | e1
      · rcases List.mem_cons.mp h2 with e2 | e2
        · exact ne (e1.trans e2.symm)
        · subst e1
          exact h.1 (by rw [e]; exact List.mem_map.mpr ⟨y, e2, rfl⟩)
      · rcases List.mem_cons.mp h2 with e2 | e2
        · subst e2
          exact h.1 (by rw [← e]; exact List.mem_map.mpr ⟨x, e1, rfl⟩)
        · exact ih h.2 e1 e2
  · intro h
    refine List.pairwise_map.mpr (List.Pairwise.imp_of_mem (fun {x y} hx hy ne e => ?_) nd)
    obtain ⟨a, ha, rfl⟩ := List.mem_map.mp ((m x).mp hx)
    obtain ⟨b, hb, rfl⟩ := List.mem_map.mp ((m y).mp hy)
    exact ne (h a ha b hb e)
theorem nodup_lt {α : Type} [DecidableEq α] : ∀ {l E : List α}, E.Nodup → (∀ x, x ∈ E ↔ x ∈ l) → E.length ≤ l.length ∧ (E.length = l.length ↔ l.Nodup)
  | [], E, n, m => by
    cases E with
    | nil => simp
    | cons x E => exact absurd ((m x).mp List.mem_cons_self) (by simp)
  | a :: l, E, n, m => by
    have ha : a ∈ E := (m a).mpr List.mem_cons_self
    by_cases h : a ∈ l
    · have h1 := nodup_lt (l := l) n fun x => by
        rw [m x, List.mem_cons]
        exact ⟨fun z => z.elim (fun e => e ▸ h) id, .inr⟩
      refine ⟨by rw [List.length_cons]; omega, ⟨fun z => ?_, fun z => absurd h (List.nodup_cons.mp z).1⟩⟩
      rw [List.length_cons] at z
      omega
    · have hE : (E.erase a).length + 1 = E.length := by rw [List.length_erase_of_mem ha]; have := List.length_pos_of_mem ha; omega
      have h1 := nodup_lt (l := l) (n.erase a) fun x => by
        rw [n.mem_erase_iff, m x, List.mem_cons]
        constructor
        · rintro ⟨h1, h2 | h2⟩
          · exact absurd h2 h1
          · exact h2
        · intro h2
          exact ⟨fun e => h (e ▸ h2), .inr h2⟩
      rw [List.length_cons, List.nodup_cons]
      refine ⟨by omega, ⟨fun z => ⟨h, h1.2.mp (by omega)⟩, fun z => by have := h1.2.mpr z.2; omega⟩⟩
theorem nodup_sub {α : Type} [DecidableEq α] : ∀ {s l : List α}, s.Nodup → (∀ a ∈ s, a ∈ l) → s.length ≤ l.length
  | [], l, _, _ => Nat.zero_le _
  | a :: s, l, n, h => by
    obtain ⟨n1, n2⟩ := List.nodup_cons.mp n
    have ha := h a List.mem_cons_self
    have h1 := nodup_sub (s := s) (l := l.erase a) n2 fun x hx => (List.mem_erase_of_ne fun (e : x = a) => n1 (e ▸ hx)).mpr (h x (List.mem_cons_of_mem _ hx))
    rw [List.length_erase_of_mem ha] at h1
    have := List.length_pos_of_mem ha
    rw [List.length_cons]
    omega
theorem merge_keys : ∀ (l acc : List (KD × D)), (acc.map (·.1)).Nodup → ((mergeD acc l).map (·.1)).Nodup ∧ ∀ k, k ∈ (mergeD acc l).map (·.1) ↔ k ∈ acc.map (·.1) ∨ k ∈ l.map (·.1)
  | [], acc, n => ⟨n, fun k => by simp [mergeD]⟩
  | x :: l, acc, n => by
    obtain ⟨h1, h2⟩ := merge_keys l (kput acc x.1 x.2) (kput_nd _ _ n)
    refine ⟨h1, fun k => (h2 k).trans ?_⟩
    rw [List.map_cons, List.mem_cons]
    rcases kput_keys x.1 x.2 acc with ⟨_, e⟩ | ⟨⟨d, hd⟩, e⟩
    · rw [e, List.mem_append, List.mem_singleton, or_assoc]
    · rw [e]
      have hm : x.1 ∈ acc.map (·.1) := List.mem_map.mpr ⟨_, kget_mem hd, rfl⟩
      constructor
      · rintro (h | h)
        · exact .inl h
        · exact .inr (.inr h)
      · rintro (h | h | h)
        · exact .inl h
        · exact .inl (h ▸ hm)
        · exact .inr h
theorem kget_putU {κ : Type} [DecidableEq κ] (k k' : κ) (e : D) : ∀ ds : List (κ × D), kget (kput ds k e) k' = if k' = k then some e else kget ds k'
  | [] => by
    unfold kput kget
    by_cases c : k' = k
    · rw [if_pos c, if_pos c.symm]
    · rw [if_neg c, if_neg (Ne.symm c)]; rfl
  | (k₀, d) :: ds => by
    unfold kput
    by_cases c : k₀ = k
    · rw [if_pos c]
      subst c
      unfold kget
      by_cases c2 : k₀ = k'
      · rw [if_pos c2, if_pos c2.symm]
      · rw [if_neg c2, if_neg (Ne.symm c2), if_neg c2]
    · rw [if_neg c]
      unfold kget
      by_cases c2 : k₀ = k'
      · rw [if_pos c2, if_pos c2, if_neg fun z => c (c2.trans z)]
      · rw [if_neg c2, if_neg c2, kget_putU k k' e ds]
/-! ### a dict comprehension, step by step -/
def dcQ (tg : Tgt) (vs : List Nat) (tt : DTT) (tk tv : DTE) (its : List D) (keep : OS → Prop) (ρ : Env') (O1 : OS) (Q : DQ) : Prop := ∃ W : Nat → List (KD × D) → OS → Prop, W 0 [] O1 ∧ (∀ i acc O, i ≤ its.length → W i acc O → keep O) ∧
  (∀ i d acc O, its[i]? = some d → W i acc O → tg.to d (blank ρ vs) fun ρ2 => tt ρ2 O fun b O2 => if b = true then tk ρ2 O2 fun y O3 => tv ρ2 O3 fun z O4 => ∃ k, keyD y = some k ∧ W (i + 1) (kput acc k z) O4 else W (i + 1) acc O2) ∧
  ∀ acc O, W its.length acc O → ∀ p, O p = none → Q (.atm (.ref p)) (oput O p (.dic acc))
section
variable {ti : DTI} {tg : Tgt} {vs : List Nat} {tt : DTT} {tk tv : DTE} {ρ : Env'} {O : OS} {Q : DQ} {keep : OS → Prop}
theorem w_dc (q : ti ρ O fun its keep O1 => dcQ tg vs tt tk tv its keep ρ O1 Q) : dDc ti tg vs tt tk tv ρ O Q := q
theorem dcq_pure {α : Type} (l : List α) (e : α → D) (kf : α → D) (kd : α → KD) (f : α → D) (hkd : ∀ a ∈ l, keyD (kf a) = some (kd a)) (hk : keep O)
    (hd : ∀ a ∈ l, tg.to (e a) (blank ρ vs) fun ρ2 => (∀ k : DQ, k (kf a) O → tk ρ2 O k) ∧ (∀ k : DQ, k (f a) O → tv ρ2 O k))
    (hq : ∀ p, O p = none → Q (.atm (.ref p)) (oput O p (.dic (mergeD [] (l.map fun a => (kd a, f a)))))) : dcQ tg vs tYesD tk tv (l.map e) keep ρ O Q :=
  dc_pure (ti := fun _ _ R => R (l.map e) keep O) l e kf kd f hkd (fun R h => h keep hk) hd hq
end
def get2Q (x y z : D) (O : OS) (Q : DQ) : Prop := match lookD x y with | some o => Q (o.getD z) O | none => False
section
variable {td ty tz : DTE} {ρ : Env'} {O : OS} {Q : DQ} {ns : List (List Nat × List Nat)} {n : List Nat}
theorem w_get2 (q : td ρ O fun x O1 => isDic (vw O1 x) = true ∧ ty ρ O1 fun y O2 => tz ρ O2 fun z O3 => get2Q (vw O3 x) (vw O3 y) z O3 Q) : dGet2 td ty tz ρ O Q := q
theorem w_getN (q : Q (.str (rnm ns n)) O) : get2Q (.dic (nmK ns)) (.str n) (.str n) O Q := by
  show Q ((kget (nmK ns) (.s n)).getD (.str n)) O
  rw [nmK_get]; exact q
end
theorem merge_cnt {l : List (List Nat)} {d : D} : (mergeD [] (l.map fun a => (KD.s a, d))).length ≤ l.length ∧ ((mergeD [] (l.map fun a => (KD.s a, d))).length = l.length ↔ l.Nodup) := by
  obtain ⟨h1, h2⟩ := merge_keys (l.map fun a => (KD.s a, d)) [] List.nodup_nil
  rw [List.map_map] at h2
  have h3 : (l.map KD.s).Nodup ↔ l.Nodup := ⟨fun h => (List.pairwise_map.mp h).imp fun h e => h (by rw [e]), s_nodup⟩
  have h := nodup_lt (l := l.map KD.s) h1 fun x => by rw [h2]; simp
  rw [List.length_map, List.length_map, h3] at h
  exact h
theorem strKeys_of : ∀ {kds : List (KD × D)} {ns : List (List Nat)}, kds.map (·.1) = ns.map KD.s → strKeys kds = some ns
  | [], [], _ => rfl
  | [], _ :: _, h => by cases h
  | _ :: _, [], h => by cases h
  | (k, d) :: kds, n :: ns, h => by
    rw [List.map_cons, List.map_cons] at h
    obtain ⟨h1, h2⟩ := List.cons.inj h
    have h1 : k = .s n := h1
    subst h1
    rw [strKeys, strKeys_of h2]
    rfl
end DS

namespace K03
open PySem PySem.Spec PyProof.Rows L2 DS
local macro_rules | `(tactic| walk_at "s") => `(tactic| first
  | with_reducible refine w_isNN ?_
  | with_reducible refine w_notNN ?_
  | with_reducible refine w_vp ?_
  | with_reducible refine w_atP0 ?_
  | with_reducible refine w_atP1 ?_
  | with_reducible refine w_isNP ?_
  | with_reducible refine w_notNP ?_
  | with_reducible refine w_itP ?_
  | with_reducible refine w_gtpP ?_
  | with_reducible refine w_seq ?_
  | with_reducible refine w_lc ?_
  | with_reducible refine w_next ?_
  | with_reducible refine w_drop ?_
  | with_reducible refine w_ret ?_
  | with_reducible refine w_retN ?_
  | with_reducible refine w_if ?_
  | with_reducible refine w_asg ?_
  | with_reducible refine w_set ?_
  | with_reducible refine w_par ?_
  | with_reducible refine w_two ?_
  | with_reducible refine w_gnm ?_
  | with_reducible refine w_raise ?_
  | with_reducible refine w_break ?_
  | with_reducible refine w_cont ?_
  | with_reducible refine w_c ?_
  | with_reducible refine w_op ?_
  | with_reducible refine w_un ?_
  | with_reducible refine w_b ?_
  | with_reducible refine w_m ?_
  | with_reducible refine w_nil ?_
  | with_reducible refine w_cons ?_
  | with_reducible refine w_val ?_
  | with_reducible refine w_asB ?_
  | with_reducible refine w_and ?_
  | with_reducible refine w_or ?_
  | with_reducible refine w_not ?_
  | with_reducible refine w_andV ?_
  | with_reducible refine w_orV ?_
  | with_reducible refine w_notE ?_
  | with_reducible refine w_notV ?_
  | with_reducible refine w_ifE ?_
  | with_reducible refine w_ift ?_
  | with_reducible refine w_iff ?_
  | with_reducible refine w_tup ?_
  | with_reducible refine w_lst ?_
  | with_reducible refine w_lstM ?_
  | with_reducible refine w_sl ?_
  | with_reducible refine w_on ?_
  | with_reducible refine w_os ?_
  | with_reducible refine w_slS ?_
  | with_reducible refine w_slT ?_
  | with_reducible refine w_slL ?_
  | with_reducible refine w_call ?_
  | with_reducible refine w_frz ?_
  | with_reducible refine w_addI ?_
  | with_reducible refine w_sub ?_
  | with_reducible refine w_inc ?_
  | with_reducible refine w_neg ?_
  | with_reducible refine w_lt ?_
  | with_reducible refine w_le ?_
  | with_reducible refine w_gt ?_
  | with_reducible refine w_ge ?_
  | with_reducible refine w_eqI ?_
  | with_reducible refine w_neI ?_
  | with_reducible refine w_eqS ?_
  | with_reducible refine w_neS ?_
  | with_reducible refine w_lenS ?_
  | with_reducible refine w_lenT ?_
  | with_reducible refine w_lenL ?_
  | with_reducible refine w_lenF ?_
  | with_reducible refine w_lenD ?_
  | with_reducible refine w_int ?_
  | with_reducible refine w_intB ?_
  | with_reducible refine w_abs ?_
  | with_reducible refine w_max ?_
  | with_reducible refine w_min ?_
  | with_reducible refine w_tupL ?_
  | with_reducible refine w_tupT ?_
  | with_reducible refine w_listL ?_
  | with_reducible refine w_listT ?_
  | with_reducible refine w_listML ?_
  | with_reducible refine w_listMT ?_
  | with_reducible refine w_chain ?_
  | with_reducible refine w_vint ?_
  | with_reducible refine w_vbl ?_
  | with_reducible refine w_vnon ?_
  | with_reducible refine w_vstr ?_
  | with_reducible refine w_vtup ?_
  | with_reducible refine w_vlst ?_
  | with_reducible refine w_vfl ?_
  | with_reducible refine w_vdic ?_
  | with_reducible refine w_vty ?_
  | with_reducible refine w_vtm ?_
  | with_reducible refine w_vsn ?_
  | with_reducible refine w_vsc ?_
  | with_reducible refine w_starT ?_
  | with_reducible refine w_starL ?_
  | with_reducible refine w_inS ?_
  | with_reducible refine w_asD ?_
  | with_reducible refine w_asO ?_
  | with_reducible refine w_ifnt ?_
  | with_reducible refine w_ifnf ?_
  | with_reducible refine w_oi ?_
  | with_reducible refine w_it ?_
  | with_reducible refine w_itT ?_
  | with_reducible refine w_itL ?_
  | with_reducible refine w_itF ?_
  | with_reducible refine w_itS ?_
  | with_reducible refine w_rg1 ?_
  | with_reducible refine w_rg2 ?_
  | with_reducible refine w_star ?_
  | with_reducible refine w_for ?_
  | with_reducible refine w_joined ?_
  | with_reducible refine w_jsn ?_
  | with_reducible refine w_jsc ?_
  | with_reducible refine w_fmt ?_
  | with_reducible refine w_fmtS ?_
  | with_reducible refine w_setd ?_
  | with_reducible refine w_newK ?_
  | with_reducible refine w_lenSet ?_
  | with_reducible refine w_try ?_
  | with_reducible refine w_put ?_
  | ((with_reducible refine' w_var ?h ?_); (case h => exact rfl))
  | ((with_reducible refine' w_aug ?h ?_); (case h => exact rfl))
  | ((with_reducible refine' w_own ?h ?_); (case h => assumption))
  | ((with_reducible refine' w_frzO ?h ?_); (case h => assumption))
  | ((with_reducible refine' w_isN ?h ?_); (case h => exact rfl))
  | ((with_reducible refine' w_notN ?h ?_); (case h => exact rfl))
  | ((with_reducible refine' w_gtp ?h ?_); (case h => exact rfl))
  | ((with_reducible refine' w_mod ?h ?_); (case h => decide))
  | ((with_reducible refine' w_itO ?h ?_); (case h => assumption))
  | ((with_reducible refine' w_isiY ?h1 ?h2 ?h3 ?h4 ?_); (case h1 => exact rfl); (case h4 => decide); (case h2 => decide); (case h3 => (intro _ hh; cases hh)))
  | ((with_reducible refine' w_isiN ?h1 ?h2 ?h3 ?h4 ?_); (case h1 => exact rfl); (case h4 => decide); (case h2 => decide); (case h3 => (intro _ hh; cases hh)))
  | ((with_reducible refine And.intro ?h ?_); (case h => (show Sz _; first | decide | (simp only [List.length_cons, List.length_nil]; decide) | assumption)))
  | with_reducible refine w_eqEm ?_
  | with_reducible refine w_neEm ?_
  | with_reducible refine w_eqR ?_
  | with_reducible refine w_neR ?_
  | with_reducible refine w_notT ?_
  | with_reducible refine w_isT ?_
  | with_reducible refine w_isF ?_
  | with_reducible refine w_notF ?_
  | with_reducible refine w_rev ?_
  | with_reducible refine w_revL ?_
  | with_reducible refine w_revT ?_
  | with_reducible refine w_en ?_
  | with_reducible refine w_enL ?_
  | with_reducible refine w_zp ?_
  | with_reducible refine w_zpL ?_
  | with_reducible refine w_zpT ?_
  | with_reducible refine w_listDD ?_
  | ((with_reducible refine' w_gtl ?h ?_); (case h => exact rfl))
  | ((with_reducible refine' w_sfrz ?h1 ?h2 ?_); (case h1 => exact rfl); (case h2 => first | assumption | exact oput_same)))
local macro_rules | `(tactic| walk_at "vc") => `(tactic| repeat walk_at "s")
section
variable {P : Program} {w : World} {K : PySem.W.Frag} {mg : Str → Option Value} {base : Heap} {f : Addr} {fd : FuncData} {C : Str → Addr} {k : Nat}
def trmOk (n : Nat) (t : Trm) : Prop := t.ok = true ∧ DS.isT t = true ∧ tdep t < n ∧ (subs t).length ≤ 40000
theorem trm_toTrm {t : Trm} (h : t.ok = true) (h2 : DS.isT t = true) : isTD (tD t) = true := by
  unfold isTD
  rw [toTrm_tD t h]
  exact h2
def sp_require_terms (n : Nat) : DSp := fun ds O Q _ => ∃ ts : List Trm, ds = [.tup (ts.map tD)] ∧ (∀ t ∈ ts, trmOk n t) ∧ Q .non O
abbrev N_require_terms : List Str := ["terms", "term"]
theorem sc_require_terms : FnScope N_require_terms ["terms"] (defScope s_require_terms) := ⟨rfl, rfl, rfl, by decide +kernel, rfl, by decide +kernel, by decide +kernel⟩
theorem ok_require_terms (F : FnP K "require_terms" s_require_terms f fd) (g : Gs K mg C) {n : Nat} (c_require_term : DFn P w K mg base "require_term" k (sp_require_term (C := C) n))  : FnOk P w K mg base (CX P w) (k + 1) f fd ["terms"] (liftF K (sp_require_terms n)) := by
  refine okD2 (t := fun W => _) F sc_require_terms ?_ (fun cdv A outer s H E F0 W tk hr => (dss_one (ds_for (passes_of rfl) rfl (di_any (dv 0)) (dg_name (i := 1) sc_require_terms.nd rfl (.inl rfl)) (dss_one (ds_expr (de_call c_require_term hr (passD tk) rfl (da_cons (dv 1) da_nil))))))) ?_
  · rintro ds O Q E ⟨t, rfl, _⟩; rfl
  · rintro ds O Q E ⟨ts, rfl, ht, q⟩
    walk_at "vc"
    refine ⟨fun i ρ' O' => ∃ x, ρ' = [some (.tup (ts.map tD)), x] ∧ O' = O, ⟨none, rfl, rfl⟩, fun _ _ _ _ _ => trivial, ?_, ?_⟩
    · rintro i d ρ' O' hi ⟨x, rfl, rfl⟩
      rw [List.getElem?_map] at hi
      cases e : ts[i]? with
      | none => rw [e] at hi; cases hi
      | some t =>
        rw [e] at hi
        cases hi
        obtain ⟨h1, h2, h3, h4⟩ := ht t (List.mem_of_getElem? e)
        walk_at "vc"
        refine ⟨_, rfl, typed_tD t, by rw [tdp_tD]; exact h3, by rw [dsz_tD]; omega, fun _ => ?_, fun z => by rw [trm_toTrm h1 h2] at z; cases z⟩
        exact ⟨_, rfl, rfl⟩
    · rintro ρ' O' ⟨x, rfl, rfl⟩
      walk_at "vc"
      exact w_q q
theorem ok_few {nm : List Nat} {ts : List Trm} (h : (Trm.mk nm ts).ok = true) : ts.length ≤ 3 := by
  rw [Trm.ok, Bool.and_eq_true, Bool.and_eq_true] at h
  exact of_decide_eq_true h.1.2
theorem ok_nm {nm : List Nat} {ts : List Trm} (h : (Trm.mk nm ts).ok = true) : isNm nm = true := by
  rw [Trm.ok, Bool.and_eq_true, Bool.and_eq_true] at h
  exact h.1.1
theorem ok_part {nm : List Nat} {ps : List Trm} {t : Trm} (h : (Trm.mk nm ps).ok = true) (ht : t ∈ ps) : t.ok = true := by
  rw [Trm.ok, Bool.and_eq_true] at h
  exact oks_all.mp h.2 t ht
/-! ordered_dict, places_of -/
def sp_ordered_dict : DSp := fun ds O Q _ => ∃ (kds : List (KD × D)) (ns0 : List (List Nat)), ds = [.dic kds] ∧ (kds.map (·.1)).Nodup ∧ kds.map (·.1) = ns0.map KD.s ∧ (kds.map fun kd => keyData' kd.1) = ns0.map D.str ∧ ns0.length < 64 ∧
  ∀ ns : List (List Nat), ns.Perm ns0 → Q (.dic (ns.map fun a => (KD.s a, (kget kds (.s a)).getD .non))) O
abbrev N_ordered_dict : List Str := ["found", "key"]
theorem sc_ordered_dict : FnScope N_ordered_dict ["found"] (defScope s_ordered_dict) := ⟨rfl, rfl, rfl, by decide +kernel, rfl, by decide +kernel, by decide +kernel⟩
theorem ok_ordered_dict (F : FnP K "ordered_dict" s_ordered_dict f fd) (g : Gs K mg C)  : FnOk P w K mg base (CX P w) (k + 1) f fd ["found"] (liftF K sp_ordered_dict) := by
  refine okD2 (t := fun W => _) F sc_ordered_dict ?_ (fun cdv A outer s H E F0 W tk hr => (dss_one (ds_ret (de_frz (de_dc (own := [("key", 1)]) (tgt := .one 1) rfl sc_ordered_dict.nd (di_any (de_b (L2.call_sortedD rfl) l_sortD rfl g.f_sorted rfl (da_cons (dv 0) da_nil))) (blkOk_by (N := N_ordered_dict) (sc := defScope s_ordered_dict) (by decide +kernel)) List.mem_cons_self (fun _ _ _ _ _ => pg_name (i := 1) sc_ordered_dict.nd rfl (by first | exact Or.inl rfl | exact Or.inr rfl)) (fun _ _ _ _ _ _ => dts_nil) (fun _ _ _ _ _ _ => (dv 1)) (fun _ _ _ _ _ _ => (de_at hr (dv 0) (dv 1)))))))) ?_
  · rintro ds O Q E ⟨t, _, rfl, _⟩; rfl
  · rintro ds O Q E ⟨kds, ns0, rfl, p1, k1, k2, hl, q⟩
    have nd0 : ns0.Nodup := by
      rw [k1] at p1
      exact (List.pairwise_map.mp p1).imp fun h e => h (by rw [e])
    have hsk : strKeys kds = some ns0 := strKeys_of k1
    walk_at "vc"
    refine w_dc ?_
    walk_at "vc"
    refine w_sortDD hsk hl fun ns pn hs => ?_
    have hget : ∀ a ∈ ns, ∃ d, kget kds (.s a) = some d := fun a ha => by
      have h1 : KD.s a ∈ kds.map (·.1) := by rw [k1]; exact List.mem_map.mpr ⟨a, pn.mem_iff.mp ha, rfl⟩
      obtain ⟨kd, hkd, e⟩ := List.mem_map.mp h1
      obtain ⟨k, d⟩ := kd
      have e : k = KD.s a := e
      subst e
      exact ⟨d, kget_of p1 hkd⟩
    have hkn : ((ns.map fun a => (KD.s a, (kget kds (.s a)).getD .non)).map (·.1)).Nodup := by
      rw [List.map_map]
      exact s_nodup (pn.nodup_iff.mpr nd0)
    walk_at "vc"
    walk_at "vc"
    refine dcq_pure ns D.str D.str KD.s (fun a => (kget kds (.s a)).getD .non) (fun a _ => rfl) trivial (fun a ha => ?_) ?_
    · refine w_tone ⟨fun kk hk => ?_, fun kk hk => ?_⟩
      · walk_at "vc"
        exact hk
      · walk_at "vc"
        obtain ⟨d, hd⟩ := hget a ha
        rw [hd] at hk
        exact w_atD rfl hd hk
    · intro p hp
      refine w_frzO oput_same ?_
      rw [odel_oput hp, merge_nil hkn]
      exact w_q (q ns pn)
def sp_places_of (n : Nat) : DSp := fun ds O Q _ => ∃ (t : Trm) (R : List (List Nat)), ds = [tD t] ∧ trmOk n t ∧ R.length < 64 ∧ (∀ s ∈ subs t, s.nm ∈ R) ∧ ∀ (ns : List (List Nat)) (fD : List Nat → D), ns.Nodup → (∀ x, x ∈ ns ↔ x ∈ (subs t).map Trm.nm) → Q (.dic (ns.map fun a => (KD.s a, fD a))) O
abbrev N_places_of : List Str := ["term"]
theorem sc_places_of : FnScope N_places_of ["term"] (defScope s_places_of) := ⟨rfl, rfl, rfl, by decide +kernel, rfl, by decide +kernel, by decide +kernel⟩
theorem ok_places_of (F : FnP K "places_of" s_places_of f fd) (g : Gs K mg C) {n : Nat} (c_require_term : DFn P w K mg base "require_term" k (sp_require_term (C := C) n)) (c_ordered_dict : DFn P w K mg base "ordered_dict" k sp_ordered_dict) (c_told_places : DFn P w K mg base "told_places" k sp_told_places) (c_place_rows : DFn P w K mg base "place_rows" k (sp_place_rows n))  : FnOk P w K mg base (CX P w) (k + 1) f fd ["term"] (liftF K (sp_places_of n)) := by
  refine okD2 (t := fun W => _) F sc_places_of ?_ (fun cdv A outer s H E F0 W tk hr => (dss_cons (ds_expr (de_call c_require_term hr (passD tk) rfl (da_cons (dv 0) da_nil))) (dss_one (ds_ret (de_call c_ordered_dict hr (passD tk) rfl (da_cons (de_call c_told_places hr (passD tk) rfl (da_cons (de_call c_place_rows hr (passD tk) rfl (da_cons (dv 0) da_nil)) da_nil)) da_nil)))))) ?_
  · rintro ds O Q E ⟨t, _, rfl, _⟩; rfl
  · rintro ds O Q E ⟨t, R, rfl, ht, hR, hRm, q⟩
    obtain ⟨h1, h2, h3, h4⟩ := ht
    walk_at "vc"
    refine ⟨_, rfl, typed_tD t, by rw [tdp_tD]; exact h3, by rw [dsz_tD]; omega, fun _ => ?_, fun z => by rw [trm_toTrm h1 h2] at z; cases z⟩
    walk_at "vc"
    refine ⟨t, rfl, by omega, by omega, ?_⟩
    walk_at "vc"
    refine ⟨rowsT t, by rw [rowsT, List.map_map]; rfl, by rw [rowsT, List.length_map]; omega, ?_⟩
    have hlk : (told (rowsT t) []).isSome = true := h2
    cases e : told (rowsT t) [] with
    | none => rw [e] at hlk; cases hlk
    | some kds =>
      have e2 : told ([t].flatMap rowsT) [] = some kds := by rw [List.flatMap_cons, List.flatMap_nil, List.append_nil]; exact e
      obtain ⟨p1, p2⟩ := told_pl e2
      rw [List.flatMap_cons, List.flatMap_nil, List.append_nil] at p2
      obtain ⟨ns0, k1, k2⟩ := keys_str (kds := kds) fun k d hm => by
        obtain ⟨t, _, h1, _⟩ := (p2 k d).mp hm
        exact ⟨_, h1⟩
      have nd0 : ns0.Nodup := by
        have p1 := p1
        rw [k1] at p1
        exact (List.pairwise_map.mp p1).imp fun h e => h (by rw [e])
      unfold toldD
      walk_at "vc"
      refine ⟨kds, ns0, rfl, p1, k1, k2, ?_, fun ns pn => ?_⟩
      · refine Nat.lt_of_le_of_lt (nodup_sub nd0 fun x hx => ?_) hR
        have h : KD.s x ∈ kds.map (·.1) := by rw [k1]; exact List.mem_map.mpr ⟨x, hx, rfl⟩
        obtain ⟨⟨k0, d⟩, hkd, e⟩ := List.mem_map.mp h
        have e : k0 = KD.s x := e
        subst e
        obtain ⟨s, hs, e1, _⟩ := (p2 _ d).mp hkd
        rw [KD.s.inj e1]
        exact hRm s hs
      walk_at "vc"
      refine w_q (q ns (fun a => (kget kds (.s a)).getD .non) (pn.nodup_iff.mpr nd0) fun x => ?_)
      rw [pn.mem_iff]
      have hk : x ∈ ns0 ↔ KD.s x ∈ kds.map (·.1) := by
        rw [k1]
        constructor
        · exact fun h => List.mem_map.mpr ⟨x, h, rfl⟩
        · intro h
          obtain ⟨y, hy, e⟩ := List.mem_map.mp h
          rw [← KD.s.inj e]; exact hy
      rw [hk]
      constructor
      · intro h
        obtain ⟨⟨k0, d⟩, hkd, e⟩ := List.mem_map.mp h
        have e : k0 = KD.s x := e
        subst e
        obtain ⟨s, hs, e1, _⟩ := (p2 _ d).mp hkd
        exact List.mem_map.mpr ⟨s, hs, (KD.s.inj e1).symm⟩
      · intro h
        obtain ⟨s, hs, rfl⟩ := List.mem_map.mp h
        exact List.mem_map.mpr ⟨(KD.s s.nm, .int s.ps.length), (p2 _ _).mpr ⟨s, hs, rfl, rfl⟩, rfl⟩
/-! replaced -/
def sp_put (n : Nat) : DSp := fun ds O Q _ => ∃ t old new : Trm, ds = [tD t, tD old, tD new] ∧ t.ok = true ∧ tdep t ≤ n ∧ n ≤ 150 ∧ Q (tD (tput old new t)) O
abbrev N_replaced_in : List Str := ["term", "old", "new", "part"]
theorem sc_replaced_in : FnScope N_replaced_in ["term", "old", "new"] (defScope s_replaced_in) := ⟨rfl, rfl, rfl, by decide +kernel, rfl, by decide +kernel, by decide +kernel⟩
theorem ok_replaced_in (F : FnP K "replaced_in" s_replaced_in f fd) (g : Gs K mg C) {n : Nat} (c_replaced_in : DFn P w K mg base "replaced_in" k (sp_put n))  : FnOk P w K mg base (CX P w) (k + 1) f fd ["term", "old", "new"] (liftF K (sp_put (n + 1))) := by
  refine okD2 (t := fun W => _) F sc_replaced_in ?_ (fun cdv A outer s H E F0 W tk hr => (dss_cons (ds_if (dt_cmp (op_eqV (un200 hr)) l_eq (dv 0) (dv 1) rfl) (dss_one (ds_ret (dv 2))) dss_nil) (dss_one (ds_ret (de_tup (da_cons (de_at hr (dv 0) de_int) (da_star (de_lc (own := [("part", 3)]) (tgt := .one 3) fin_data rfl sc_replaced_in.nd (di_any (de_slice (dv 0) (do_some de_int) do_none)) (blkOk_by (N := N_replaced_in) (sc := defScope s_replaced_in) (by decide +kernel)) List.mem_cons_self (fun _ _ _ _ _ => pg_name (i := 3) sc_replaced_in.nd rfl (by first | exact Or.inl rfl | exact Or.inr rfl)) (fun _ _ _ _ _ _ => dts_nil) (fun _ _ _ _ _ _ => (de_call c_replaced_in hr (passD0) rfl (da_cons (dv 3) (da_cons (dv 1) (da_cons (dv 2) da_nil)))))) da_nil))))))) ?_
  · rintro ds O Q E ⟨t, _, _, rfl, _⟩; rfl
  · rintro ds O Q E ⟨⟨nm, ps⟩, old, new, rfl, hk, hd, hn, q⟩
    walk_at "vc"
    refine w_eqE ordT (by rw [dep_tD]; omega) ?_
    cases e : deq (tD (.mk nm ps)) (tD old) with
    | true =>
      walk_at "vc"
      rw [tput_yes e] at q
      exact w_q q
    | false =>
      rw [tput_no e] at q
      rw [tdep] at hd
      have hd2 : ∀ t ∈ ps, tdep t ≤ n := tdeps_le.mp (by omega)
      have hk2 : ∀ t ∈ ps, t.ok = true := fun t ht => ok_part hk ht
      rw [tD]
      walk_at "vc"
      refine w_atT atI_head ?_
      walk_at "vc"
      rw [dcut_tail, tDs_eq]
      refine lcq_map ps tD (fun t => tD (tput old new t)) trivial (fun t ht kk hkk => ?_) ?_
      · walk_at "vc"
        exact ⟨t, old, new, rfl, hk2 t ht, hd2 t ht, by omega, hkk⟩
      walk_at "vc"
      have hl := ok_few hk
      refine ⟨by show _ ≤ 16777216; simp only [List.length_cons, List.length_append, List.length_map, List.length_nil]; omega, ?_⟩
      rw [tD, tDs_eq, List.map_map] at q
      rw [List.append_nil]
      exact w_q q
def sp_replaced (n : Nat) : DSp := fun ds O Q E => ∃ t old new : Trm, ds = [tD t, tD old, tD new] ∧ trmOk n t ∧ trmOk n old ∧ trmOk n new ∧ n ≤ 150 ∧ tdep (tput old new t) < n ∧ (subs (tput old new t)).length ≤ 40000 ∧
  (DS.isT (tput old new t) = true → Q (tD (tput old new t)) O) ∧ (DS.isT (tput old new t) = false → E (.pl (.ref (C "InvalidTerm"))) O)
abbrev N_replaced : List Str := ["term", "old", "new", "found"]
theorem sc_replaced : FnScope N_replaced ["term", "old", "new"] (defScope s_replaced) := ⟨rfl, rfl, rfl, by decide +kernel, rfl, by decide +kernel, by decide +kernel⟩
theorem ok_replaced (F : FnP K "replaced" s_replaced f fd) (g : Gs K mg C) {n : Nat} (c_require_term : DFn P w K mg base "require_term" k (sp_require_term (C := C) n)) (c_replaced_in : DFn P w K mg base "replaced_in" k (sp_put n)) (c_require_terms : DFn P w K mg base "require_terms" k (sp_require_terms n))  : FnOk P w K mg base (CX P w) (k + 1) f fd ["term", "old", "new"] (liftF K (sp_replaced (C := C) n)) := by
  refine okD2 (t := fun W => _) F sc_replaced ?_ (fun cdv A outer s H E F0 W tk hr => (dss_cons (ds_expr (de_call c_require_terms hr (passD tk) rfl (da_cons (de_tup (da_cons (dv 0) (da_cons (dv 1) (da_cons (dv 2) da_nil)))) da_nil))) (dss_cons (ds_set (i := 3) sc_replaced.nd rfl (.inl rfl) (de_call c_replaced_in hr (passD tk) rfl (da_cons (dv 0) (da_cons (dv 1) (da_cons (dv 2) da_nil))))) (dss_cons (ds_expr (de_call c_require_term hr (passD tk) rfl (da_cons (dv 3) da_nil))) (dss_one (ds_ret (dv 3))))))) ?_
  · rintro ds O Q E ⟨t, _, _, rfl, _⟩; rfl
  · rintro ds O Q E ⟨t, old, new, rfl, h1, h2, h3, hn, hd, hs, q, qe⟩
    have hok := tput_ok (old := old) h3.1 t h1.1
    have hisT : isTD (tD (tput old new t)) = DS.isT (tput old new t) := isTD_tD hok
    walk_at "vc"
    refine ⟨[t, old, new], rfl, fun x hx => ?_, ?_⟩
    · simp only [List.mem_cons, List.not_mem_nil, or_false] at hx
      rcases hx with rfl | rfl | rfl <;> assumption
    walk_at "vc"
    refine ⟨t, old, new, rfl, h1.1, Nat.le_of_lt h1.2.2.1, hn, ?_⟩
    walk_at "vc"
    refine ⟨_, rfl, typed_tD _, by rw [tdp_tD]; exact hd, by rw [dsz_tD]; omega, fun z => ?_, fun z => ?_⟩
    · walk_at "vc"
      exact w_q (q (hisT.symm.trans z))
    · exact w_e (qe (hisT.symm.trans z))
/-! renamed -/
def nmsOk (ns : List (List Nat × List Nat)) : Prop := (ns.map (·.1)).Nodup ∧ ns.length ≤ 1000 ∧ ∀ p ∈ ns, isNm p.1 = true ∧ isNm p.2 = true
def sp_require_renaming : DSp := fun ds O Q _ => ∃ ns : List (List Nat × List Nat), ds = [.dic (nmK ns)] ∧ nmsOk ns ∧ Q .non O
abbrev N_require_renaming : List Str := ["names", "name"]
theorem sc_require_renaming : FnScope N_require_renaming ["names"] (defScope s_require_renaming) := ⟨rfl, rfl, rfl, by decide +kernel, rfl, by decide +kernel, by decide +kernel⟩
theorem ok_require_renaming (F : FnP K "require_renaming" s_require_renaming f fd) (g : Gs K mg C) (c_is_name : DFn P w K mg base "is_name" k sp_is_name)  : FnOk P w K mg base (CX P w) (k + 1) f fd ["names"] (liftF K sp_require_renaming) := by
  refine okD2 (t := fun W => _) F sc_require_renaming ?_ (fun cdv A outer s H E F0 W tk hr => (dss_one (ds_if (dt_w (dw_or (dt_not (dt_val (de_b call_isi l_isi rfl g.f_isinstance rfl (da_cons (dv 0) (da_cons (de_ty rfl g.f_dict rfl) da_nil))))) (dw_or1 (dt_not (dt_val (de_b (cr_all rfl) l_all rfl g.f_all rfl (da_cons (de_lc (own := [("name", 1)]) (tgt := .one 1) fin_data rfl sc_require_renaming.nd (di_any (dv 0)) (blkOk_by (N := N_require_renaming) (sc := defScope s_require_renaming) (by decide +kernel)) List.mem_cons_self (fun _ _ _ _ _ => pg_name (i := 1) sc_require_renaming.nd rfl (by first | exact Or.inl rfl | exact Or.inr rfl)) (fun _ _ _ _ _ _ => dts_nil) (fun _ _ _ _ _ _ => (de_and (de_call c_is_name hr (passD0) rfl (da_cons (dv 1) da_nil)) (de_one (de_call c_is_name hr (passD0) rfl (da_cons (de_at hr (dv 0) (dv 1)) da_nil)))))) da_nil))))))) (dss_one (ds_raiseC rfl tk g.e_InvalidName rfl)) dss_nil))) ?_
  · rintro ds O Q E ⟨t, rfl, _⟩; rfl
  · rintro ds O Q E ⟨ns, rfl, ⟨n1, n2, n3⟩, q⟩
    walk_at "vc"
    refine w_itD ?_
    rw [show (nmK ns).map (fun kv => keyData kv.1) = (ns.map (·.1)).map D.str by unfold nmK; rw [List.map_map, List.map_map]; rfl]
    generalize hks : ns.map (·.1) = ks
    refine lcq_map ks D.str (fun _ => .bl true) trivial (fun a ha kk hk => ?_) ?_
    · subst hks
      obtain ⟨p, hp, rfl⟩ := List.mem_map.mp ha
      walk_at "vc"
      refine ⟨_, rfl, rfl, ?_⟩
      rw [show nmD (.str p.1) = isNm p.1 from rfl, (n3 p hp).1]
      walk_at "vc"
      refine w_atD rfl (nmK_at ha) ?_
      walk_at "vc"
      refine ⟨_, rfl, rfl, ?_⟩
      have h2 : isNm (rnm ns p.1) = true := by
        rcases rnm_in ns p.1 with e | e
        · rw [e]; exact (n3 p hp).1
        · obtain ⟨p', hp', e⟩ := List.mem_map.mp e
          rw [← e]; exact (n3 p' hp').2
      rw [show nmD (.str (rnm ns p.1)) = isNm (rnm ns p.1) from rfl, h2]
      exact hk
    walk_at "vc"
    refine w_all (blsD_mapA (fun _ => true) _) ?_
    rw [show (ks.map fun _ => true).all id = true by simp]
    walk_at "vc"
    exact w_q q
def sp_renaming_of : DSp := fun ds O Q E => ∃ (xs : List (List Nat)) (fD : List Nat → D) (ns : List (List Nat × List Nat)), ds = [.dic (xs.map fun a => (KD.s a, fD a)), .dic (nmK ns)] ∧ nmsOk ns ∧ xs.Nodup ∧
  ((xs.map (rnm ns)).Nodup → Q (.dic (nmK (xs.map fun a => (a, rnm ns a)))) O) ∧ (¬ (xs.map (rnm ns)).Nodup → E (.pl (.ref (C "InvalidOperation"))) O)
abbrev N_renaming_of : List Str := ["present", "names", "found", "name"]
theorem sc_renaming_of : FnScope N_renaming_of ["present", "names"] (defScope s_renaming_of) := ⟨rfl, rfl, rfl, by decide +kernel, rfl, by decide +kernel, by decide +kernel⟩
theorem ok_renaming_of (F : FnP K "renaming_of" s_renaming_of f fd) (g : Gs K mg C) (c_require_renaming : DFn P w K mg base "require_renaming" k sp_require_renaming)  : FnOk P w K mg base (CX P w) (k + 1) f fd ["present", "names"] (liftF K (sp_renaming_of (C := C))) := by
  refine okD2 (t := fun W => _) F sc_renaming_of ?_ (fun cdv A outer s H E F0 W tk hr => (dss_cons (ds_expr (de_call c_require_renaming hr (passD tk) rfl (da_cons (dv 1) da_nil))) (dss_cons (ds_set (i := 2) sc_renaming_of.nd rfl (.inr rfl) (de_frz (de_dc (own := [("name", 3)]) (tgt := .one 3) rfl sc_renaming_of.nd (di_any (dv 0)) (blkOk_by (N := N_renaming_of) (sc := defScope s_renaming_of) (by decide +kernel)) List.mem_cons_self (fun _ _ _ _ _ => pg_name (i := 3) sc_renaming_of.nd rfl (by first | exact Or.inl rfl | exact Or.inr rfl)) (fun _ _ _ _ _ _ => dts_nil) (fun _ _ _ _ _ _ => (dv 3)) (fun _ _ _ _ _ _ => (de_get2 hr (dv 1) (dv 3) (dv 3)))))) (dss_cons (ds_if (dt_cmp op_lt l_lt (de_b call_lenW l_len rfl g.f_len rfl (da_cons (de_frz (de_dc (own := [("name", 3)]) (tgt := .one 3) rfl sc_renaming_of.nd (di_any (dv 2)) (blkOk_by (N := N_renaming_of) (sc := defScope s_renaming_of) (by decide +kernel)) List.mem_cons_self (fun _ _ _ _ _ => pg_name (i := 3) sc_renaming_of.nd rfl (by first | exact Or.inl rfl | exact Or.inr rfl)) (fun _ _ _ _ _ _ => dts_nil) (fun _ _ _ _ _ _ => (de_at hr (dv 2) (dv 3))) (fun _ _ _ _ _ _ => de_bl))) da_nil)) (de_b call_lenW l_len rfl g.f_len rfl (da_cons (dv 2) da_nil)) rfl) (dss_one (ds_raiseC rfl tk g.e_InvalidOperation rfl)) dss_nil) (dss_one (ds_ret (dv 2))))))) ?_
  · rintro ds O Q E ⟨_, _, _, rfl, _⟩; rfl
  · rintro ds O Q E ⟨xs, fD, ns, rfl, hns, nd, q, qe⟩
    walk_at "vc"
    refine ⟨ns, rfl, hns, ?_⟩
    walk_at "vc"
    refine dc_pure xs D.str D.str KD.s (fun a => .str (rnm ns a)) (fun a _ => rfl) (fun R h => ?_) (fun a ha => ?_) ?_
    · walk_at "vc"
      refine w_itD ?_
      rw [show (xs.map fun a => (KD.s a, fD a)).map (fun kv => keyData kv.1) = xs.map D.str by rw [List.map_map]; rfl]
      exact h kAny trivial
    · refine w_tone ⟨fun kk hk => ?_, fun kk hk => ?_⟩
      · walk_at "vc"
        exact hk
      · refine w_get2 ?_
        walk_at "vc"
        refine ⟨rfl, ?_⟩
        walk_at "vc"
        exact w_getN hk
    intro p hp
    refine w_frzO oput_same ?_
    rw [odel_oput hp]
    have en : (xs.map fun a => (KD.s a, D.str (rnm ns a))) = nmK (xs.map fun a => (a, rnm ns a)) := by unfold nmK; rw [List.map_map]; rfl
    have ek : (xs.map fun a => (a, rnm ns a)).map (·.1) = xs := by rw [List.map_map]; exact List.map_id xs
    rw [en, merge_nil (nmK_nodup (by rw [ek]; exact nd))]
    walk_at "vc"
    refine dc_pure xs D.str (fun a => .str (rnm ns a)) (fun a => KD.s (rnm ns a)) (fun _ => .bl true) (fun a _ => rfl) (fun R h => ?_) (fun a ha => ?_) ?_
    · walk_at "vc"
      refine w_itD ?_
      rw [show (nmK (xs.map fun a => (a, rnm ns a))).map (fun kv => keyData kv.1) = xs.map D.str by unfold nmK; rw [List.map_map, List.map_map]; rfl]
      exact h kAny trivial
    · refine w_tone ⟨fun kk hk => ?_, fun kk hk => ?_⟩
      · walk_at "vc"
        refine w_atD rfl (nmK_at (by rw [ek]; exact ha)) ?_
        rw [rnm_map ha]
        exact hk
      · walk_at "vc"
        exact hk
    intro r hr
    refine w_frzO oput_same ?_
    rw [odel_oput hr]
    walk_at "vc"
    have ml : (mergeD [] (xs.map fun a => (KD.s (rnm ns a), D.bl true))).length ≤ xs.length ∧ ((mergeD [] (xs.map fun a => (KD.s (rnm ns a), D.bl true))).length = xs.length ↔ (xs.map (rnm ns)).Nodup) := by
      have ml := merge_cnt (l := xs.map (rnm ns)) (d := .bl true)
      rw [List.map_map, List.length_map] at ml
      exact ml
    have nl : (nmK (xs.map fun a => (a, rnm ns a))).length = xs.length := by unfold nmK; rw [List.length_map, List.length_map]
    rw [nl]
    refine w_ifd (fun h => ?_) fun h => ?_
    · walk_at "vc"
      exact w_e (qe fun z => by have := ml.2.mpr z; omega)
    · walk_at "vc"
      exact w_q (q (ml.2.mp (by omega)))
def sp_renamed_in (n : Nat) : DSp := fun ds O Q _ => ∃ (t : Trm) (ns : List (List Nat × List Nat)), ds = [tD t, .dic (nmK ns)] ∧ t.ok = true ∧ tdep t ≤ n ∧ Q (tD (tren (rnm ns) t)) O
abbrev N_renamed_in : List Str := ["term", "names", "part"]
theorem sc_renamed_in : FnScope N_renamed_in ["term", "names"] (defScope s_renamed_in) := ⟨rfl, rfl, rfl, by decide +kernel, rfl, by decide +kernel, by decide +kernel⟩
theorem ok_renamed_in (F : FnP K "renamed_in" s_renamed_in f fd) (g : Gs K mg C) {n : Nat} (c_renamed_in : DFn P w K mg base "renamed_in" k (sp_renamed_in n))  : FnOk P w K mg base (CX P w) (k + 1) f fd ["term", "names"] (liftF K (sp_renamed_in (n + 1))) := by
  refine okD2 (t := fun W => _) F sc_renamed_in ?_ (fun cdv A outer s H E F0 W tk hr => (dss_one (ds_ret (de_tup (da_cons (de_get2 hr (dv 1) (de_at hr (dv 0) de_int) (de_at hr (dv 0) de_int)) (da_star (de_lc (own := [("part", 2)]) (tgt := .one 2) fin_data rfl sc_renamed_in.nd (di_any (de_slice (dv 0) (do_some de_int) do_none)) (blkOk_by (N := N_renamed_in) (sc := defScope s_renamed_in) (by decide +kernel)) List.mem_cons_self (fun _ _ _ _ _ => pg_name (i := 2) sc_renamed_in.nd rfl (by first | exact Or.inl rfl | exact Or.inr rfl)) (fun _ _ _ _ _ _ => dts_nil) (fun _ _ _ _ _ _ => (de_call c_renamed_in hr (passD0) rfl (da_cons (dv 2) (da_cons (dv 1) da_nil))))) da_nil)))))) ?_
  · rintro ds O Q E ⟨t, _, rfl, _⟩; rfl
  · rintro ds O Q E ⟨⟨nm, ps⟩, ns, rfl, hk, hd, q⟩
    have hl := ok_few hk
    rw [tdep] at hd
    have hd2 : ∀ t ∈ ps, tdep t ≤ n := tdeps_le.mp (by omega)
    have hk2 : ∀ t ∈ ps, t.ok = true := fun t ht => ok_part hk ht
    rw [tD]
    walk_at "vc"
    refine w_get2 ?_
    walk_at "vc"
    refine ⟨rfl, ?_⟩
    walk_at "vc"
    refine w_atT atI_head ?_
    walk_at "vc"
    refine w_atT atI_head ?_
    refine w_getN ?_
    walk_at "vc"
    rw [dcut_tail, tDs_eq]
    refine lcq_map ps tD (fun t => tD (tren (rnm ns) t)) trivial (fun t ht kk hkk => ?_) ?_
    · walk_at "vc"
      exact ⟨t, ns, rfl, hk2 t ht, hd2 t ht, hkk⟩
    walk_at "vc"
    refine ⟨by show _ ≤ 16777216; simp only [List.length_cons, List.length_append, List.length_map, List.length_nil]; omega, ?_⟩
    rw [tren, tD, tDs_eq, trens_eq, List.map_map] at q
    rw [List.append_nil]
    exact w_q q
def sp_renamed_by (n : Nat) : DSp := fun ds O Q E => ∃ (t : Trm) (ns : List (List Nat × List Nat)) (R : List (List Nat)), ds = [tD t, .dic (nmK ns)] ∧ trmOk n t ∧ R.length < 64 ∧ (∀ s ∈ subs t, s.nm ∈ R) ∧ nmsOk ns ∧ (injT' (rnm ns) t → Q (tD (tren (rnm ns) t)) O) ∧ (¬ injT' (rnm ns) t → E (.pl (.ref (C "InvalidOperation"))) O)
abbrev N_renamed_by : List Str := ["term", "names", "present"]
theorem sc_renamed_by : FnScope N_renamed_by ["term", "names"] (defScope s_renamed_by) := ⟨rfl, rfl, rfl, by decide +kernel, rfl, by decide +kernel, by decide +kernel⟩
theorem ok_renamed_by (F : FnP K "renamed_by" s_renamed_by f fd) (g : Gs K mg C) {n : Nat} (c_places_of : DFn P w K mg base "places_of" k (sp_places_of n)) (c_renaming_of : DFn P w K mg base "renaming_of" k (sp_renaming_of (C := C))) (c_renamed_in : DFn P w K mg base "renamed_in" k (sp_renamed_in n))  : FnOk P w K mg base (CX P w) (k + 1) f fd ["term", "names"] (liftF K (sp_renamed_by (C := C) n)) := by
  refine okD2 (t := fun W => _) F sc_renamed_by ?_ (fun cdv A outer s H E F0 W tk hr => (dss_cons (ds_set (i := 2) sc_renamed_by.nd rfl (.inl rfl) (de_call c_places_of hr (passD tk) rfl (da_cons (dv 0) da_nil))) (dss_one (ds_ret (de_call c_renamed_in hr (passD tk) rfl (da_cons (dv 0) (da_cons (de_call c_renaming_of hr (passD tk) rfl (da_cons (dv 2) (da_cons (dv 1) da_nil))) da_nil))))))) ?_
  · rintro ds O Q E ⟨t, _, _, rfl, _⟩; rfl
  · rintro ds O Q E ⟨t, ns, R, rfl, ht, hR, hRm, hns, q, qe⟩
    walk_at "vc"
    refine ⟨t, R, rfl, ht, hR, hRm, fun xs fD nd hm => ?_⟩
    walk_at "vc"
    refine ⟨xs, fD, ns, rfl, hns, nd, fun h => ?_, fun h => ?_⟩
    · walk_at "vc"
      refine ⟨t, _, rfl, ht.1, Nat.le_of_lt ht.2.2.1, ?_⟩
      rw [tren_same (r := rnm (xs.map fun a => (a, rnm ns a))) (q := rnm ns) t fun s hs => rnm_map ((hm _).mpr (List.mem_map.mpr ⟨s, hs, rfl⟩))]
      exact w_q (q ((nodup_mapT nd hm).mp h))
    · exact w_e (qe fun z => h ((nodup_mapT nd hm).mpr z))
end
end K03

namespace K03
open PySem PySem.Spec PyProof.Rows L2 DS
local macro_rules | `(tactic| walk_at "s") => `(tactic| first
  | with_reducible refine w_seq ?_
  | with_reducible refine w_next ?_
  | with_reducible refine w_drop ?_
  | with_reducible refine w_ret ?_
  | with_reducible refine w_retN ?_
  | with_reducible refine w_if ?_
  | with_reducible refine w_asg ?_
  | with_reducible refine w_set ?_
  | with_reducible refine w_par ?_
  | with_reducible refine w_two ?_
  | with_reducible refine w_gnm ?_
  | with_reducible refine w_raise ?_
  | with_reducible refine w_break ?_
  | with_reducible refine w_cont ?_
  | with_reducible refine w_c ?_
  | with_reducible refine w_op ?_
  | with_reducible refine w_un ?_
  | with_reducible refine w_b ?_
  | with_reducible refine w_m ?_
  | with_reducible refine w_nil ?_
  | with_reducible refine w_cons ?_
  | with_reducible refine w_val ?_
  | with_reducible refine w_asB ?_
  | with_reducible refine w_and ?_
  | with_reducible refine w_or ?_
  | with_reducible refine w_not ?_
  | with_reducible refine w_andV ?_
  | with_reducible refine w_orV ?_
  | with_reducible refine w_notE ?_
  | with_reducible refine w_notV ?_
  | with_reducible refine w_ifE ?_
  | with_reducible refine w_ift ?_
  | with_reducible refine w_iff ?_
  | with_reducible refine w_tup ?_
  | with_reducible refine w_lst ?_
  | with_reducible refine w_lstM ?_
  | with_reducible refine w_sl ?_
  | with_reducible refine w_on ?_
  | with_reducible refine w_os ?_
  | with_reducible refine w_slS ?_
  | with_reducible refine w_slT ?_
  | with_reducible refine w_slL ?_
  | with_reducible refine w_call ?_
  | with_reducible refine w_frz ?_
  | with_reducible refine w_addI ?_
  | with_reducible refine w_sub ?_
  | with_reducible refine w_inc ?_
  | with_reducible refine w_neg ?_
  | with_reducible refine w_lt ?_
  | with_reducible refine w_le ?_
  | with_reducible refine w_gt ?_
  | with_reducible refine w_ge ?_
  | with_reducible refine w_eqI ?_
  | with_reducible refine w_neI ?_
  | with_reducible refine w_eqS ?_
  | with_reducible refine w_neS ?_
  | with_reducible refine w_lenS ?_
  | with_reducible refine w_lenT ?_
  | with_reducible refine w_lenL ?_
  | with_reducible refine w_lenF ?_
  | with_reducible refine w_lenD ?_
  | with_reducible refine w_int ?_
  | with_reducible refine w_intB ?_
  | with_reducible refine w_abs ?_
  | with_reducible refine w_max ?_
  | with_reducible refine w_min ?_
  | with_reducible refine w_tupL ?_
  | with_reducible refine w_tupT ?_
  | with_reducible refine w_listL ?_
  | with_reducible refine w_listT ?_
  | with_reducible refine w_listML ?_
  | with_reducible refine w_listMT ?_
  | with_reducible refine w_chain ?_
  | with_reducible refine w_vint ?_
  | with_reducible refine w_vbl ?_
  | with_reducible refine w_vnon ?_
  | with_reducible refine w_vstr ?_
  | with_reducible refine w_vtup ?_
  | with_reducible refine w_vlst ?_
  | with_reducible refine w_vfl ?_
  | with_reducible refine w_vdic ?_
  | with_reducible refine w_vty ?_
  | with_reducible refine w_vtm ?_
  | with_reducible refine w_vsn ?_
  | with_reducible refine w_vsc ?_
  | with_reducible refine w_starT ?_
  | with_reducible refine w_starL ?_
  | with_reducible refine w_inS ?_
  | with_reducible refine w_asD ?_
  | with_reducible refine w_asO ?_
  | with_reducible refine w_ifnt ?_
  | with_reducible refine w_ifnf ?_
  | with_reducible refine w_oi ?_
  | with_reducible refine w_it ?_
  | with_reducible refine w_itT ?_
  | with_reducible refine w_itL ?_
  | with_reducible refine w_itF ?_
  | with_reducible refine w_itS ?_
  | with_reducible refine w_rg1 ?_
  | with_reducible refine w_rg2 ?_
  | with_reducible refine w_star ?_
  | with_reducible refine w_for ?_
  | with_reducible refine w_joined ?_
  | with_reducible refine w_jsn ?_
  | with_reducible refine w_jsc ?_
  | with_reducible refine w_fmt ?_
  | with_reducible refine w_fmtS ?_
  | with_reducible refine w_setd ?_
  | with_reducible refine w_newK ?_
  | with_reducible refine w_lenSet ?_
  | with_reducible refine w_try ?_
  | with_reducible refine w_put ?_
  | with_reducible refine w_lc ?_
  | ((with_reducible refine' w_var ?h ?_); (case h => exact rfl))
  | ((with_reducible refine' w_aug ?h ?_); (case h => exact rfl))
  | ((with_reducible refine' w_own ?h ?_); (case h => assumption))
  | ((with_reducible refine' w_frzO ?h ?_); (case h => assumption))
  | ((with_reducible refine' w_isN ?h ?_); (case h => exact rfl))
  | ((with_reducible refine' w_notN ?h ?_); (case h => exact rfl))
  | ((with_reducible refine' w_gtp ?h ?_); (case h => exact rfl))
  | ((with_reducible refine' w_mod ?h ?_); (case h => decide))
  | ((with_reducible refine' w_itO ?h ?_); (case h => assumption))
  | ((with_reducible refine' w_isiY ?h1 ?h2 ?h3 ?h4 ?_); (case h1 => exact rfl); (case h4 => decide); (case h2 => decide); (case h3 => (intro _ hh; cases hh)))
  | ((with_reducible refine' w_isiN ?h1 ?h2 ?h3 ?h4 ?_); (case h1 => exact rfl); (case h4 => decide); (case h2 => decide); (case h3 => (intro _ hh; cases hh)))
  | ((with_reducible refine And.intro ?h ?_); (case h => (show Sz _; first | decide | (simp only [List.length_cons, List.length_nil]; decide) | assumption))))
local macro_rules | `(tactic| walk_at "vc") => `(tactic| repeat walk_at "s")
section
variable {P : Program} {w : World} {K : PySem.W.Frag} {mg : Str → Option Value} {base : Heap} {f : Addr} {fd : FuncData} {C : Str → Addr} {k : Nat}
def sp_dice : DSp := fun ds O Q _ => ∃ (ns : List Int) (i : Nat), ds = [.fl (ns.map .int), .int i] ∧ i ≤ 1000 ∧ ∀ p a b c, O p = none → DcOk 0 a b c → Q (.atm (.ref p)) (oput O p (dc a b c))
abbrev N__law_dice : List Str := ["script", "spot", "cell", "great", "mixed"]
theorem sc__law_dice : FnScope N__law_dice ["script", "spot"] (defScope s__law_dice) := ⟨rfl, rfl, rfl, by decide +kernel, rfl, by decide +kernel, by decide +kernel⟩
theorem ok__law_dice (F : FnP K "_law_dice" s__law_dice f fd) (g : Gs K mg C)  : FnOk P w K mg base (CX P w) (k + 1) f fd ["script", "spot"] (liftF K sp_dice) := by
  refine okD2 (t := fun W => _) F sc__law_dice ?_ (fun cdv A outer s H E F0 W tk hr => (dss_cons (ds_set (i := 2) sc__law_dice.nd rfl (.inl rfl) (de_if (dt_cmp op_lt l_lt (dv 1) (de_b call_lenW l_len rfl g.f_len rfl (da_cons (dv 0) da_nil)) rfl) (de_at hr (dv 0) (dv 1)) (de_op (op_add.or (op_add_str.or (op_catA.or op_cat))) l_add (de_op op_mulW l_mul de_int (dv 1)) de_int))) (dss_cons (ds_set (i := 3) sc__law_dice.nd rfl (.inl rfl) (de_op op_mod l_mod (de_bt call_int1 l_int rfl g.f_int rfl (da_cons (de_b call_abs l_abs rfl g.f_abs rfl (da_cons (dv 2) da_nil)) da_nil)) (de_op op_powW l_pow (de_op op_powW l_pow de_int de_int) de_int))) (dss_cons (ds_set (i := 4) sc__law_dice.nd rfl (.inl rfl) (de_op op_mulW l_mul (de_op op_mod l_mod (de_bt call_int1 l_int rfl g.f_int rfl (da_cons (dv 3) da_nil)) de_int) de_int)) (dss_cons (ds_set (i := 4) sc__law_dice.nd rfl (.inl rfl) (de_op (op_add.or (op_add_str.or (op_catA.or op_cat))) l_add (de_op (op_add.or (op_add_str.or (op_catA.or op_cat))) l_add (de_op (op_add.or (op_add_str.or (op_catA.or op_cat))) l_add (dv 4) (de_op op_mulW l_mul de_int (dv 1))) (de_op op_mulW l_mul de_int (de_bt call_int1 l_int rfl g.f_int rfl (da_cons (de_cmp op_lt l_lt (dv 2) de_int rfl) da_nil)))) de_int)) (dss_one (ds_ret (de_lstM (da_cons (de_b (call_max2 rfl) l_max rfl g.f_max rfl (da_cons de_int (da_cons (de_op (op_add.or (op_add_str.or (op_catA.or op_cat))) l_add (de_op op_sub l_sub (dv 3) (de_op op_powW l_pow de_int de_int)) de_int) da_nil))) (da_cons (de_op op_mod l_mod (de_bt call_int1 l_int rfl g.f_int rfl (da_cons (dv 4) da_nil)) de_int) (da_cons de_int da_nil))))))))))) ?_
  · rintro ds O Q E ⟨ns, i, rfl, _⟩; rfl
  · rintro ds O Q E ⟨ns, i, rfl, hi, q⟩
    refine w_seq ?_
    refine w_set ?_
    refine w_anyI ?_ fun cell => ?_
    · by_cases h : i < ns.length
      · refine ⟨ns[i], fun kk hk => ?_⟩
        walk_at "vc"
        refine w_ifd (fun _ => ?_) fun z => absurd (by rw [List.length_map]; omega) z
        walk_at "vc"
        refine w_atF (atI_nat (by rw [List.getElem?_map, List.getElem?_eq_getElem h]; rfl)) ?_
        exact hk
      · refine ⟨37 * (i : Int) + 9, fun kk hk => ?_⟩
        walk_at "vc"
        refine w_ifd (fun z => absurd z (by rw [List.length_map]; omega)) fun _ => ?_
        walk_at "vc"
        refine w_mul (cmul 10 20 (by decide) (by omega) (by decide)) ?_
        walk_at "vc"
        exact hk
    walk_at "vc"
    refine w_pow (by decide +kernel) ?_
    walk_at "vc"
    refine w_pow (by decide +kernel) ?_
    walk_at "vc"
    have hg := emod_bd (a := if cell < 0 then -cell else cell) ten59.2
    have hg2 := ten59.1
    generalize (if cell < 0 then -cell else cell) % (((10 : Int) ^ (59 : Int).toNat) ^ (11 : Int).toNat) = great at hg ⊢
    generalize ((10 : Int) ^ (59 : Int).toNat) ^ (11 : Int).toNat = big at hg hg2
    walk_at "vc"
    have hm := emod_bd (a := great) (show (0 : Int) < 2305843009213693951 by decide)
    refine w_mul (cmul 64 64 (by omega) (by decide) (by decide)) ?_
    walk_at "vc"
    refine w_mul (cmul 10 20 (by decide) (by omega) (by decide)) ?_
    walk_at "vc"
    refine w_mul (cmul 10 20 (by decide) (by split <;> decide) (by decide)) ?_
    walk_at "vc"
    refine w_pow (by decide +kernel) ?_
    walk_at "vc"
    generalize great % 2305843009213693951 * 7046029254386353 + 131 * (i : Int) + 17 * (if decide (cell < 0) = true then 1 else 0) + 3 = mx
    have h3 := emod_bd (a := mx) (show (0 : Int) < 2305843009213693921 by decide)
    have h4 : (10 : Int) ^ (18 : Int).toNat = 1000000000000000000 := by decide +kernel
    rw [h4]
    generalize hb : mx % 2305843009213693921 = bb at h3 ⊢
    intro p hp
    refine w_q (q p _ _ _ hp ⟨?_, ?_, h3.1, ?_, Int.le_refl _, Int.le_refl _⟩)
    · split <;> omega
    · have : (0 : Int) < 2 ^ 2200 := by decide +kernel
      generalize (2 : Int) ^ 2200 = w2 at *
      split <;> omega
    · have : (2 : Int) ^ 61 = 2305843009213693952 := by decide +kernel
      rw [this]; omega
def sp_roll : DSp := fun ds O Q _ => ∃ (p : Addr) (m a b c : Int) (n : Nat), ds = [.atm (.ref p), .int m] ∧ 1 ≤ m ∧ m ≤ 1000000 ∧ O p = some (dc a b c) ∧ DcOk n a b c ∧ n ≤ 2 ^ 40 ∧ ∀ r a b c, 0 ≤ r → r < m → DcOk (n + 1) a b c → Q (.int r) (oput O p (dc a b c))
abbrev N__law_roll : List Str := ["dice", "many", "one", "two", "found"]
theorem sc__law_roll : FnScope N__law_roll ["dice", "many"] (defScope s__law_roll) := ⟨rfl, rfl, rfl, by decide +kernel, rfl, by decide +kernel, by decide +kernel⟩
theorem ok__law_roll (F : FnP K "_law_roll" s__law_roll f fd) (g : Gs K mg C)  : FnOk P w K mg base (CX P w) (k + 1) f fd ["dice", "many"] (liftF K sp_roll) := by
  refine okD2 (t := fun W => _) F sc__law_roll ?_ (fun cdv A outer s H E F0 W tk hr => (dss_cons (ds_if (dt_cmp op_gt l_gt (de_at hr (dv 0) de_int) de_int rfl) (dss_cons (ds_set (i := 4) sc__law_roll.nd rfl (.inl rfl) (de_op op_mod l_mod (de_bt call_int1 l_int rfl g.f_int rfl (da_cons (de_at hr (dv 0) de_int) da_nil)) (dv 1))) (dss_cons (ds_put hr (de_op op_fdivW l_div (de_at hr (dv 0) de_int) (dv 1)) (dv 0) de_int) (dss_one (ds_ret (dv 4))))) dss_nil) (dss_cons (ds_put hr (de_op (op_add.or (op_add_str.or (op_catA.or op_cat))) l_add (de_at hr (dv 0) de_int) de_int) (dv 0) de_int) (dss_cons (ds_set (i := 2) sc__law_roll.nd rfl (.inl rfl) (de_op op_mod l_mod (de_bt call_int1 l_int rfl g.f_int rfl (da_cons (de_op (op_add.or (op_add_str.or (op_catA.or op_cat))) l_add (de_at hr (dv 0) de_int) (de_op op_mulW l_mul de_int (de_at hr (dv 0) de_int))) da_nil)) de_int)) (dss_cons (ds_set (i := 3) sc__law_roll.nd rfl (.inl rfl) (de_op (op_add.or (op_add_str.or (op_catA.or op_cat))) l_add (de_op op_mulW l_mul (de_op op_mod l_mod (de_bt call_int1 l_int rfl g.f_int rfl (da_cons (de_op op_mulW l_mul (dv 2) (dv 2)) da_nil)) de_int) (dv 2)) (de_op op_mulW l_mul de_int (de_at hr (dv 0) de_int)))) (dss_one (ds_ret (de_op op_mod l_mod (de_bt call_int1 l_int rfl g.f_int rfl (da_cons (de_op op_fdivW l_div (de_op op_mod l_mod (de_bt call_int1 l_int rfl g.f_int rfl (da_cons (de_op (op_add.or (op_add_str.or (op_catA.or op_cat))) l_add (de_op op_mulW l_mul (dv 3) (dv 3)) (de_at hr (dv 0) de_int)) da_nil)) de_int) de_int) da_nil)) (dv 1))))))))) ?_
  · rintro ds O Q E ⟨p, m, a, b, c, n, rfl, _⟩; rfl
  · rintro ds O Q E ⟨p, m, a, b, c, n, rfl, hm, hm2, hO, ⟨a1, a2, b1, b2, c1, c2⟩, hn, q⟩
    unfold dc at hO
    walk_at "vc"
    refine w_atL (d := .int a) rfl ?_
    walk_at "vc"
    refine w_ifd (fun h => ?_) fun h => ?_
    · walk_at "vc"
      refine w_atL (d := .int a) rfl ?_
      walk_at "vc"
      refine w_mod (by omega) ?_
      walk_at "vc"
      refine w_atL (d := .int a) rfl ?_
      walk_at "vc"
      have hcd : CDivW a m := ⟨by omega, by
        by_cases e : m.natAbs = 0
        · rw [e]; decide
        · have := (Nat.log2_lt e (k := 64)).mpr (by omega)
          omega⟩
      refine w_div hcd ?_
      walk_at "vc"
      refine w_setL hO rfl ?_
      walk_at "vc"
      have hm0 := emod_bd (a := a) (show 0 < m by omega)
      refine w_q (q _ (a / m) b c hm0.1 hm0.2 ⟨Int.ediv_nonneg a1 (by omega), ?_, b1, b2, c1, by omega⟩)
      have : a / m ≤ a := Int.ediv_le_self _ a1
      generalize (2 : Int) ^ 2200 = w2 at *
      omega
    · walk_at "vc"
      refine w_atL (d := .int c) rfl ?_
      walk_at "vc"
      refine w_setL hO rfl ?_
      have hO2 : oput O p (.lst ([D.int a, .int b, .int c].set 2 (.int (c + 1)))) p = some (.lst [D.int a, .int b, .int (c + 1)]) := oput_same
      walk_at "vc"
      refine w_atL (d := .int b) rfl ?_
      walk_at "vc"
      refine w_atL (d := .int (c + 1)) rfl ?_
      walk_at "vc"
      have hc3 : c + 1 < 2 ^ 60 := by
        have e60 : (2 : Int) ^ 60 = 1152921504606846976 := by decide +kernel
        have e40 : (2 : Nat) ^ 40 = 1099511627776 := by decide +kernel
        rw [e60]; omega
      have hc4 : (c + 1).natAbs < 2 ^ 60 := by
        have e60 : (2 : Int) ^ 60 = 1152921504606846976 := by decide +kernel
        have e61 : (2 : Nat) ^ 60 = 1152921504606846976 := by decide +kernel
        rw [e60] at hc3
        rw [e61]; omega
      refine w_mul (cmul 40 60 (by decide) hc4 (by decide)) ?_
      walk_at "vc"
      have h1 := emod_bd (a := b + 1220703125 * (c + 1)) (show (0 : Int) < 36028797018963913 by decide)
      generalize (b + 1220703125 * (c + 1)) % 36028797018963913 = one at h1 ⊢
      have ho : one < 2 ^ 60 := by
        have e60 : (2 : Int) ^ 60 = 1152921504606846976 := by decide +kernel
        rw [e60]; omega
      have ho2 : one.natAbs < 2 ^ 60 := by
        have e61 : (2 : Nat) ^ 60 = 1152921504606846976 := by decide +kernel
        rw [e61]; omega
      refine w_mul (cmul 60 60 ho2 ho2 (by decide)) ?_
      walk_at "vc"
      have h2 := emod_bd (a := one * one) (show (0 : Int) < 18014398509481951 by decide)
      generalize (one * one) % 18014398509481951 = oo at h2 ⊢
      have hoo : oo < 2 ^ 60 := by
        have e60 : (2 : Int) ^ 60 = 1152921504606846976 := by decide +kernel
        rw [e60]; omega
      have hoo2 : oo.natAbs < 2 ^ 60 := by
        have e61 : (2 : Nat) ^ 60 = 1152921504606846976 := by decide +kernel
        rw [e61]; omega
      refine w_mul (cmul 60 60 hoo2 ho2 (by decide)) ?_
      walk_at "vc"
      refine w_atL (d := .int (c + 1)) rfl ?_
      walk_at "vc"
      refine w_mul (cmul 40 60 (by decide) hc4 (by decide)) ?_
      walk_at "vc"
      have h3 := two_bd h2.1 hoo h1.1 ho (show 0 ≤ c + 1 by omega) hc3
      generalize oo * one + 271828183 * (c + 1) = two at h3 ⊢
      refine w_mul (cmul 200 200 h3 h3 (by decide)) ?_
      walk_at "vc"
      refine w_atL (d := .int b) rfl ?_
      walk_at "vc"
      refine w_div ⟨by decide, by decide +kernel⟩ ?_
      walk_at "vc"
      refine w_mod (by omega) ?_
      generalize (two * two + b) % 1125899906842597 / 4096 = last
      have h4 := emod_bd (a := last) (show 0 < m by omega)
      exact w_q (q _ a b (c + 1) h4.1 h4.2 ⟨a1, a2, b1, b2, by omega, by omega⟩)
def sp_pick : DSp := fun ds O Q _ => ∃ (p : Addr) (xs : List D) (a b c : Int) (n : Nat), ds = [.atm (.ref p), .lst xs] ∧ 1 ≤ xs.length ∧ xs.length ≤ 1000000 ∧ O p = some (dc a b c) ∧ DcOk n a b c ∧ n ≤ 2 ^ 40 ∧ ∀ x a b c, x ∈ xs → DcOk (n + 1) a b c → Q x (oput O p (dc a b c))
abbrev N__law_pick : List Str := ["dice", "items"]
theorem sc__law_pick : FnScope N__law_pick ["dice", "items"] (defScope s__law_pick) := ⟨rfl, rfl, rfl, by decide +kernel, rfl, by decide +kernel, by decide +kernel⟩
theorem ok__law_pick (F : FnP K "_law_pick" s__law_pick f fd) (g : Gs K mg C) (c__law_roll : DFn P w K mg base "_law_roll" k sp_roll)  : FnOk P w K mg base (CX P w) (k + 1) f fd ["dice", "items"] (liftF K sp_pick) := by
  refine okD2 (t := fun W => _) F sc__law_pick ?_ (fun cdv A outer s H E F0 W tk hr => (dss_one (ds_ret (de_at hr (dv 1) (de_call c__law_roll hr (passD tk) rfl (da_cons (dv 0) (da_cons (de_b call_lenW l_len rfl g.f_len rfl (da_cons (dv 1) da_nil)) da_nil))))))) ?_
  · rintro ds O Q E ⟨p, xs, a, b, c, n, rfl, _⟩; rfl
  · rintro ds O Q E ⟨p, xs, a, b, c, n, rfl, h1, h2, hO, hd, hn, q⟩
    walk_at "vc"
    refine ⟨p, xs.length, a, b, c, n, rfl, by omega, by omega, hO, hd, hn, fun r a b c r1 r2 hd2 => ?_⟩
    walk_at "vc"
    have hlt : r.toNat < xs.length := by omega
    refine w_atL (atI_pos r1 (List.getElem?_eq_getElem hlt)) ?_
    exact w_q (q _ a b c (List.getElem_mem hlt) hd2)
def sp_mixed : DSp := fun ds O Q _ => ∃ (p : Addr) (xs : List D) (a b c : Int) (n : Nat), ds = [.atm (.ref p), .lst xs] ∧ xs.length ≤ 1000 ∧ plains xs = true ∧ O p = some (dc a b c) ∧ DcOk n a b c ∧ n + 1000 ≤ 2 ^ 40 ∧ ∀ ys a b c, ys.Perm xs → DcOk (n + xs.length) a b c → Q (.lst ys) (oput O p (dc a b c))
abbrev N__law_mixed : List Str := ["dice", "items", "left", "found"]
theorem sc__law_mixed : FnScope N__law_mixed ["dice", "items"] (defScope s__law_mixed) := ⟨rfl, rfl, rfl, by decide +kernel, rfl, by decide +kernel, by decide +kernel⟩
theorem ok__law_mixed (F : FnP K "_law_mixed" s__law_mixed f fd) (g : Gs K mg C) (c__law_roll : DFn P w K mg base "_law_roll" k sp_roll)  : FnOk P w K mg base (CX P w) (k + 1) f fd ["dice", "items"] (liftF K sp_mixed) := by
  refine okD2 (t := fun W => _) F sc__law_mixed ?_ (fun cdv A outer s H E F0 W tk hr => (dss_cons (ds_par (i := 2) (j := 3) rfl sc__law_mixed.nd rfl rfl (by decide) rfl rfl (da_cons (de_bt call_list_of l_listM rfl g.f_list rfl (da_cons (dv 1) da_nil)) (da_cons (de_lstM da_nil) da_nil)) rfl) (dss_cons (ds_while (passes_of rfl) (dt_cmp (op_neV (un200 hr)) l_ne (dv 2) (de_lst da_nil) rfl) (dss_one (ds_expr (de_m PySem.F.plainAttrs_list PySem.F.slot_list_append PySem.F.type_list_append mt_append lm_append (.inr rfl) (dv 3) (da_cons (de_m PySem.F.plainAttrs_list PySem.F.slot_list_pop PySem.F.type_list_pop mt_popAt lm_popAt (.inr rfl) (dv 2) (da_cons (de_call c__law_roll hr (passD tk) rfl (da_cons (dv 0) (da_cons (de_b call_lenW l_len rfl g.f_len rfl (da_cons (dv 2) da_nil)) da_nil))) da_nil)) da_nil))))) (dss_one (ds_ret (de_frz (dv 3))))))) ?_
  · rintro ds O Q E ⟨p, xs, a, b, c, n, rfl, _⟩; rfl
  · rintro ds O Q E ⟨p, xs, a, b, c, n, rfl, h1, hpl, hO, hd, hn, q⟩
    walk_at "vc"
    intro l hl
    walk_at "vc"
    intro r hr
    walk_at "vc"
    have hpl1 : p ≠ l := fun e => by rw [e, hl] at hO; cases hO
    have hrl : r ≠ l := fun e => by rw [e, oput_same] at hr; cases hr
    have hr2 : O r = none := by rw [oput_ne hrl] at hr; exact hr
    have hpr : p ≠ r := fun e => by rw [e, hr2] at hO; cases hO
    refine ⟨fun m ρ' O' => ∃ (ls fs : List D) (a b c : Int), ρ' = [some (.atm (.ref p)), some (.lst xs), some (.atm (.ref l)), some (.atm (.ref r))] ∧ O' l = some (.lst ls) ∧ O' r = some (.lst fs) ∧ O' p = some (dc a b c) ∧ (∀ x, x ≠ l → x ≠ r → x ≠ p → O' x = O x) ∧ m = ls.length ∧ (ls ++ fs).Perm xs ∧ DcOk (n + fs.length) a b c,
      ⟨_, xs, [], a, b, c, rfl, by rw [oput_ne hrl.symm, oput_same], oput_same, by rw [oput_ne hpr, oput_ne hpl1]; exact hO, fun x x1 x2 _ => by rw [oput_ne x2, oput_ne x1], rfl, by rw [List.append_nil], hd⟩, ?_⟩
    rintro m ρ' O' ⟨ls, fs, a, b, c, rfl, hL, hR, hP, hrest, rfl, hperm, hd2⟩
    have hlen : ls.length + fs.length = xs.length := by rw [← hperm.length_eq, List.length_append]
    have hpls : plains ls = true := by
      have go : ∀ zs : List D, (∀ z ∈ zs, DS.plain z = true) → plains zs = true := by
        intro zs
        induction zs with
        | nil => intro _; rfl
        | cons z zs ih => intro h; rw [plains, h z List.mem_cons_self, ih fun y hy => h y (List.mem_cons_of_mem _ hy)]; rfl
      exact go ls fun z hz => plains_mem hpl z (hperm.mem_iff.mp (List.mem_append.mpr (.inl hz)))
    walk_at "vc"
    refine w_neD hpls rfl (.inr (by decide)) ?_
    have e : deq (.lst ls) (.lst []) = ls.isEmpty := by
      cases ls with
      | nil => rfl
      | cons z zs => rfl
    rw [e]
    cases ls with
    | nil =>
      walk_at "vc"
      refine w_frzO hR ?_
      have hp2 : fs.Perm xs := by simpa using hperm
      refine ⟨oput O p (dc a b c), fun x d hx => ?_, q fs a b c hp2 (by rw [← hp2.length_eq]; exact hd2)⟩
      unfold oput at hx
      have hxr : x ≠ r := fun e => by
        rw [e, if_neg hpr.symm, hr2] at hx; cases hx
      have hxl : x ≠ l := fun e => by
        rw [e, if_neg hpl1.symm, hl] at hx; cases hx
      unfold odel
      rw [if_neg hxr]
      split at hx
      · rename_i e; rw [e, hP]; exact hx
      · rename_i e; rw [hrest x hxl hxr e]; exact hx
    | cons z zs =>
      rw [show (z :: zs).isEmpty = false from rfl]
      walk_at "vc"
      refine ⟨rfl, ?_⟩
      walk_at "vc"
      refine ⟨rfl, ?_⟩
      walk_at "vc"
      refine ⟨p, ((z :: zs).length : Nat), a, b, c, n + fs.length, rfl, by rw [List.length_cons]; omega, by omega, hP, hd2, by omega, fun i a' b' c' i1 i2 hd3 => ?_⟩
      walk_at "vc"
      have hlt : i.toNat < (z :: zs).length := by omega
      have hL2 : oput O' p (dc a' b' c') l = some (.lst (z :: zs)) := by rw [oput_ne hpl1.symm]; exact hL
      have hix : ixN (z :: zs).length i = some i.toNat := by
        unfold ixN
        rw [if_pos i1, if_pos i2]
      refine w_popAt hL2 hix (List.getElem?_eq_getElem hlt) ?_
      walk_at "vc"
      have hR2 : oput (oput O' p (dc a' b' c')) l (.lst ((z :: zs).eraseIdx i.toNat)) r = some (.lst fs) := by rw [oput_ne hrl, oput_ne hpr.symm]; exact hR
      refine w_app hR2 (by show _ < 16777216; omega) ?_
      walk_at "vc"
      have hel : ((z :: zs).eraseIdx i.toNat).length + 1 = (z :: zs).length := by rw [List.length_eraseIdx_of_lt hlt]; omega
      refine ⟨_, ?_, (z :: zs).eraseIdx i.toNat, fs ++ [(z :: zs)[i.toNat]], a', b', c', rfl, ?_, oput_same, ?_, fun x x1 x2 x3 => ?_, rfl, ?_, ?_⟩
      · omega
      · rw [oput_ne hrl.symm, oput_same]
      · rw [oput_ne hpr, oput_ne hpl1, oput_same]
      · rw [oput_ne x2, oput_ne x1, oput_ne x3]; exact hrest x x1 x2 x3
      · refine List.Perm.trans ?_ hperm
        have h5 := erase_perm (z :: zs) i.toNat hlt
        have h6 : ((z :: zs).eraseIdx i.toNat ++ (fs ++ [(z :: zs)[i.toNat]])).Perm ((z :: zs)[i.toNat] :: ((z :: zs).eraseIdx i.toNat ++ fs)) := by
          rw [← List.append_assoc]
          exact List.perm_append_singleton _ _
        exact h6.trans (h5.append_right fs)
      · rw [List.length_append, List.length_cons, List.length_nil, ← Nat.add_assoc]; exact hd3
end
end K03

namespace K03
open PySem PySem.Spec PyProof.Rows L2 DS
local macro_rules | `(tactic| walk_at "s") => `(tactic| first
  | with_reducible refine w_seq ?_
  | with_reducible refine w_lc ?_
  | with_reducible refine w_next ?_
  | with_reducible refine w_drop ?_
  | with_reducible refine w_ret ?_
  | with_reducible refine w_retN ?_
  | with_reducible refine w_if ?_
  | with_reducible refine w_asg ?_
  | with_reducible refine w_set ?_
  | with_reducible refine w_par ?_
  | with_reducible refine w_two ?_
  | with_reducible refine w_gnm ?_
  | with_reducible refine w_raise ?_
  | with_reducible refine w_break ?_
  | with_reducible refine w_cont ?_
  | with_reducible refine w_c ?_
  | with_reducible refine w_op ?_
  | with_reducible refine w_un ?_
  | with_reducible refine w_b ?_
  | with_reducible refine w_m ?_
  | with_reducible refine w_nil ?_
  | with_reducible refine w_cons ?_
  | with_reducible refine w_val ?_
  | with_reducible refine w_asB ?_
  | with_reducible refine w_and ?_
  | with_reducible refine w_or ?_
  | with_reducible refine w_not ?_
  | with_reducible refine w_andV ?_
  | with_reducible refine w_orV ?_
  | with_reducible refine w_notE ?_
  | with_reducible refine w_notV ?_
  | with_reducible refine w_ifE ?_
  | with_reducible refine w_ift ?_
  | with_reducible refine w_iff ?_
  | with_reducible refine w_tup ?_
  | with_reducible refine w_lst ?_
  | with_reducible refine w_lstM ?_
  | with_reducible refine w_sl ?_
  | with_reducible refine w_on ?_
  | with_reducible refine w_os ?_
  | with_reducible refine w_slS ?_
  | with_reducible refine w_slT ?_
  | with_reducible refine w_slL ?_
  | with_reducible refine w_call ?_
  | with_reducible refine w_frz ?_
  | with_reducible refine w_addI ?_
  | with_reducible refine w_sub ?_
  | with_reducible refine w_inc ?_
  | with_reducible refine w_neg ?_
  | with_reducible refine w_lt ?_
  | with_reducible refine w_le ?_
  | with_reducible refine w_gt ?_
  | with_reducible refine w_ge ?_
  | with_reducible refine w_eqI ?_
  | with_reducible refine w_neI ?_
  | with_reducible refine w_eqS ?_
  | with_reducible refine w_neS ?_
  | with_reducible refine w_lenS ?_
  | with_reducible refine w_lenT ?_
  | with_reducible refine w_lenL ?_
  | with_reducible refine w_lenF ?_
  | with_reducible refine w_lenD ?_
  | with_reducible refine w_int ?_
  | with_reducible refine w_intB ?_
  | with_reducible refine w_abs ?_
  | with_reducible refine w_max ?_
  | with_reducible refine w_min ?_
  | with_reducible refine w_tupL ?_
  | with_reducible refine w_tupT ?_
  | with_reducible refine w_listL ?_
  | with_reducible refine w_listT ?_
  | with_reducible refine w_listML ?_
  | with_reducible refine w_listMT ?_
  | with_reducible refine w_chain ?_
  | with_reducible refine w_vint ?_
  | with_reducible refine w_vbl ?_
  | with_reducible refine w_vnon ?_
  | with_reducible refine w_vstr ?_
  | with_reducible refine w_vtup ?_
  | with_reducible refine w_vlst ?_
  | with_reducible refine w_vfl ?_
  | with_reducible refine w_vdic ?_
  | with_reducible refine w_vty ?_
  | with_reducible refine w_vtm ?_
  | with_reducible refine w_vsn ?_
  | with_reducible refine w_vsc ?_
  | with_reducible refine w_starT ?_
  | with_reducible refine w_starL ?_
  | with_reducible refine w_inS ?_
  | with_reducible refine w_asD ?_
  | with_reducible refine w_asO ?_
  | with_reducible refine w_ifnt ?_
  | with_reducible refine w_ifnf ?_
  | with_reducible refine w_oi ?_
  | with_reducible refine w_it ?_
  | with_reducible refine w_itT ?_
  | with_reducible refine w_itL ?_
  | with_reducible refine w_itF ?_
  | with_reducible refine w_itS ?_
  | with_reducible refine w_rg1 ?_
  | with_reducible refine w_rg2 ?_
  | with_reducible refine w_star ?_
  | with_reducible refine w_for ?_
  | with_reducible refine w_joined ?_
  | with_reducible refine w_jsn ?_
  | with_reducible refine w_jsc ?_
  | with_reducible refine w_fmt ?_
  | with_reducible refine w_fmtS ?_
  | with_reducible refine w_setd ?_
  | with_reducible refine w_newK ?_
  | with_reducible refine w_lenSet ?_
  | with_reducible refine w_try ?_
  | with_reducible refine w_put ?_
  | ((with_reducible refine' w_var ?h ?_); (case h => exact rfl))
  | ((with_reducible refine' w_aug ?h ?_); (case h => exact rfl))
  | ((with_reducible refine' w_own ?h ?_); (case h => assumption))
  | ((with_reducible refine' w_frzO ?h ?_); (case h => assumption))
  | ((with_reducible refine' w_isN ?h ?_); (case h => exact rfl))
  | ((with_reducible refine' w_notN ?h ?_); (case h => exact rfl))
  | ((with_reducible refine' w_gtp ?h ?_); (case h => exact rfl))
  | ((with_reducible refine' w_mod ?h ?_); (case h => decide))
  | ((with_reducible refine' w_itO ?h ?_); (case h => assumption))
  | ((with_reducible refine' w_isiY ?h1 ?h2 ?h3 ?h4 ?_); (case h1 => exact rfl); (case h4 => decide); (case h2 => decide); (case h3 => (intro _ hh; cases hh)))
  | ((with_reducible refine' w_isiN ?h1 ?h2 ?h3 ?h4 ?_); (case h1 => exact rfl); (case h4 => decide); (case h2 => decide); (case h3 => (intro _ hh; cases hh)))
  | ((with_reducible refine And.intro ?h ?_); (case h => (show Sz _; first | decide | (simp only [List.length_cons, List.length_nil]; decide) | assumption))))
local macro_rules | `(tactic| walk_at "vc") => `(tactic| repeat walk_at "s")
section
variable {P : Program} {w : World} {K : PySem.W.Frag} {mg : Str → Option Value} {base : Heap} {f : Addr} {fd : FuncData} {C : Str → Addr} {k : Nat}
def sp_names : DSp := fun ds O Q _ => ∃ (p : Addr) (m a b c : Int) (n : Nat), ds = [.atm (.ref p), .int m] ∧ 1 ≤ m ∧ m ≤ 10 ∧ O p = some (dc a b c) ∧ DcOk n a b c ∧ n + 5000 ≤ 2 ^ 40 ∧ ∀ rows a b c, NamesOk rows → (rows.length ≤ 8 ∧ ∀ r ∈ rows, r.1 ≠ [107] ∧ r.1 ≠ [107, 107]) → DcOk (n + 1000) a b c → Q (.lst (rows.map rowD')) (oput O p (dc a b c))
theorem dmono {n m : Nat} {a b c : Int} (h : DcOk n a b c) (e : n ≤ m) : DcOk m a b c := ⟨h.1, h.2.1, h.2.2.1, h.2.2.2.1, h.2.2.2.2.1, by have := h.2.2.2.2.2; omega⟩
theorem plains_strs : ∀ l : List (List Nat), plains (l.map D.str) = true
  | [] => rfl
  | x :: l => by rw [List.map_cons, plains, plains_strs l]; rfl
abbrev N__law_names : List Str := ["dice", "few", "pools", "cells", "found", "name"]
theorem sc__law_names : FnScope N__law_names ["dice", "few"] (defScope s__law_names) := ⟨rfl, rfl, rfl, by decide +kernel, rfl, by decide +kernel, by decide +kernel⟩
theorem ok__law_names (F : FnP K "_law_names" s__law_names f fd) (g : Gs K mg C) (c__law_mixed : DFn P w K mg base "_law_mixed" k sp_mixed) (c__law_roll : DFn P w K mg base "_law_roll" k sp_roll) (c__law_pick : DFn P w K mg base "_law_pick" k sp_pick)  : FnOk P w K mg base (CX P w) (k + 1) f fd ["dice", "few"] (liftF K sp_names) := by
  refine okD2 (t := fun W => _) F sc__law_names ?_ (fun cdv A outer s H E F0 W tk hr => (dss_cons (ds_set (i := 2) sc__law_names.nd rfl (.inl rfl) (de_lst (da_cons (de_lst (da_cons (de_str [97]) (da_cons (de_str [98]) (da_cons (de_str [99]) (da_cons (de_str [100]) da_nil))))) (da_cons (de_lst (da_cons (de_str [97]) (da_cons (de_str [97, 98]) (da_cons (de_str [98]) (da_cons (de_str [98, 97]) da_nil))))) (da_cons (de_lst (da_cons (de_str [120]) (da_cons (de_str [120, 105, 110]) (da_cons (de_str [120, 111, 117, 116]) (da_cons (de_str [121]) da_nil))))) da_nil))))) (dss_cons (ds_set (i := 3) sc__law_names.nd rfl (.inl rfl) (de_call c__law_mixed hr (passD tk) rfl (da_cons (dv 0) (da_cons (de_call c__law_pick hr (passD tk) rfl (da_cons (dv 0) (da_cons (dv 2) da_nil))) da_nil)))) (dss_cons (ds_setLc (i := 4) (own := [("name", 5)]) (tgt := .one 5) fin_own rfl sc__law_names.nd rfl rfl (sw_true rfl rfl rfl (by decide +kernel)) (di_any (de_slice (dv 3) do_none (do_some (de_op (op_add.or (op_add_str.or (op_catA.or op_cat))) l_add de_int (de_call c__law_roll hr (passD tk) rfl (da_cons (dv 0) (da_cons de_int da_nil))))))) (blkOk_by (N := N__law_names) (sc := defScope s__law_names) (by decide +kernel)) List.mem_cons_self (fun _ _ _ _ _ => pg_name (i := 5) sc__law_names.nd rfl (by first | exact Or.inl rfl | exact Or.inr rfl)) (fun _ _ _ _ _ _ => dts_nil) (fun _ _ _ _ _ _ => (de_tup (da_cons (dv 5) (da_cons de_int da_nil))))) (dss_cons (ds_for (passes_of rfl) rfl (di_any (de_slice (de_call c__law_mixed hr (passD tk) rfl (da_cons (dv 0) (da_cons (de_lst (da_cons (de_str [102]) (da_cons (de_str [103]) (da_cons (de_str [103, 103]) (da_cons (de_str [122, 122, 122, 122, 122, 122, 122, 122]) da_nil))))) da_nil))) do_none (do_some (de_op (op_add.or (op_add_str.or (op_catA.or op_cat))) l_add de_int (de_call c__law_roll hr (passD tk) rfl (da_cons (dv 0) (da_cons (dv 1) da_nil))))))) (dg_name (i := 5) sc__law_names.nd rfl (.inl rfl)) (dss_one (ds_expr (de_m PySem.F.plainAttrs_list PySem.F.slot_list_append PySem.F.type_list_append mt_append lm_append (.inr rfl) (dv 4) (da_cons (de_tup (da_cons (dv 5) (da_cons (de_op (op_add.or (op_add_str.or (op_catA.or op_cat))) l_add de_int (de_b (call_max2 rfl) l_max rfl g.f_max rfl (da_cons de_int (da_cons (de_op op_sub l_sub (de_call c__law_roll hr (passD tk) rfl (da_cons (dv 0) (da_cons de_int da_nil))) de_int) da_nil)))) da_nil))) da_nil))))) (dss_one (ds_ret (de_b (call_sortedD (un200 hr)) l_sorted rfl g.f_sorted rfl (da_cons (dv 4) da_nil))))))))) ?_
  · rintro ds O Q E ⟨p, m, a, b, c, n, rfl, _⟩; rfl
  · rintro ds O Q E ⟨p, m, a, b, c, n, rfl, h1, h2, hO, hd, hn, q⟩
    walk_at "vc"
    refine ⟨p, _, a, b, c, n, rfl, by simp, by simp, hO, hd, by omega, fun x a b c hx hd2 => ?_⟩
    have hx2 : ∃ ws : List (List Nat), x = .lst (ws.map D.str) ∧ poolOk ws = true ∧ ∀ w ∈ ws, w ≠ [107] ∧ w ≠ [107, 107] := by
      simp only [List.mem_cons, List.not_mem_nil, or_false] at hx
      rcases hx with rfl | rfl | rfl
      · exact ⟨[[97], [98], [99], [100]], rfl, by decide +kernel, by decide +kernel⟩
      · exact ⟨[[97], [97, 98], [98], [98, 97]], rfl, by decide +kernel, by decide +kernel⟩
      · exact ⟨[[120], [120, 105, 110], [120, 111, 117, 116], [121]], rfl, by decide +kernel, by decide +kernel⟩
    obtain ⟨ws, rfl, hws, hwk⟩ := hx2
    clear hx hO hd
    simp only [poolOk, Bool.and_eq_true, decide_eq_true_eq, List.all_eq_true] at hws
    obtain ⟨⟨⟨hw1, hw2⟩, hw3⟩, hw4⟩ := hws
    walk_at "vc"
    refine ⟨p, _, a, b, c, n + 1, rfl, by rw [List.length_map]; omega, plains_strs ws, oput_same, hd2, by omega, fun ys a b c hy hd3 => ?_⟩
    obtain ⟨us, pu, rfl⟩ := perm_map D.str hy ws rfl
    rw [oput_oput]
    rw [List.length_map] at hd3
    clear hd2 hy
    walk_at "vc"
    refine ⟨p, 3, a, b, c, n + 1 + ws.length, rfl, by decide, by decide, oput_same, hd3, by omega, fun r a b c r1 r2 hd4 => ?_⟩
    rw [oput_oput]
    clear hd3
    walk_at "vc"
    rw [dcut_to _ (by omega), ← List.map_take]
    refine lcq_map (us.take (2 + r).toNat) D.str (fun x => rowD' (x, 0)) trivial (fun x _ kk hk => ?_) ?_
    · walk_at "vc"
      exact hk
    walk_at "vc"
    intro l hl
    have hlp : l ≠ p := fun e => by rw [e, oput_same] at hl; cases hl
    have hl0 : O l = none := by rw [oput_ne hlp] at hl; exact hl
    walk_at "vc"
    refine ⟨p, _, a, b, c, n + 1 + ws.length + 1, rfl, by simp, by decide, by rw [oput_ne hlp.symm, oput_same], hd4, by omega, fun ys a b c hy hd5 => ?_⟩
    obtain ⟨vs, pv, rfl⟩ := perm_map D.str hy fnms rfl
    clear hd4 hy
    walk_at "vc"
    refine ⟨p, m, a, b, c, _, rfl, by omega, by omega, oput_same, hd5, by simp only [List.length_cons, List.length_nil]; omega, fun s a b c s1 s2 hd6 => ?_⟩
    rw [oput_oput]
    clear hd5
    simp only [List.length_cons, List.length_nil] at hd6
    walk_at "vc"
    rw [dcut_to _ (by omega), ← List.map_take]
    have hvl : vs.length = 4 := pv.length_eq
    refine ⟨fun i ρ' O' => ∃ (x : Option D) (ex : List (List Nat × Int)) (a b c : Int), ρ' = [some (.atm (.ref p)), some (.int m), some (.lst [.lst [.str [97], .str [98], .str [99], .str [100]], .lst [.str [97], .str [97, 98], .str [98], .str [98, 97]], .lst [.str [120], .str [120, 105, 110], .str [120, 111, 117, 116], .str [121]]]), some (.lst (us.map D.str)), some (.atm (.ref l)), x] ∧
      O' l = some (.lst ((((us.take (2 + r).toNat).map fun x => (x, (0 : Int))) ++ ex).map rowD')) ∧ O' p = some (dc a b c) ∧ (∀ x, x ≠ l → x ≠ p → O' x = O x) ∧ ex.map (·.1) = (vs.take (1 + s).toNat).take i ∧ (∀ r ∈ ex, 0 ≤ r.2 ∧ r.2 ≤ 3) ∧ DcOk (n + 100 + i) a b c,
      ⟨none, [], a, b, c, rfl, ?_, ?_, fun x x1 x2 => ?_, rfl, fun _ h => (by cases h), dmono hd6 (by omega)⟩, fun _ _ _ _ _ => trivial, ?_, ?_⟩
    · rw [oput_ne hlp, oput_same, List.append_nil, List.map_map]
      rfl
    · rw [oput_same]
    · rw [oput_ne x2, oput_ne x1, oput_ne x2]
    · rintro i d ρ' O' hi ⟨x, ex, a, b, c, rfl, hL, hP, hrest, hex, hex2, hd7⟩
      rw [List.getElem?_map] at hi
      cases hv : (vs.take (1 + s).toNat)[i]? with
      | none => rw [hv] at hi; cases hi
      | some nm =>
        rw [hv] at hi
        cases hi
        have hil : i < 4 := by
          have := (List.getElem?_eq_some_iff.mp hv).1
          rw [List.length_take] at this
          omega
        walk_at "vc"
        refine ⟨rfl, ?_⟩
        walk_at "vc"
        refine ⟨p, 5, a, b, c, _, rfl, by decide, by decide, hP, hd7, by omega, fun t a b c t1 t2 hd8 => ?_⟩
        walk_at "vc"
        have hL2 : oput O' p (dc a b c) l = some (.lst ((((us.take (2 + r).toNat).map fun x => (x, (0 : Int))) ++ ex).map rowD')) := by rw [oput_ne hlp]; exact hL
        have hexl : ex.length ≤ 4 := by
          have := congrArg List.length hex
          rw [List.length_map, List.length_take, List.length_take] at this
          omega
        refine w_app hL2 (by show _ < 16777216; rw [List.length_map, List.length_append, List.length_map, List.length_take, pu.length_eq]; omega) ?_
        walk_at "vc"
        refine ⟨some (.str nm), ex ++ [(nm, 1 + (if t - 2 > 0 then t - 2 else 0))], a, b, c, rfl, ?_, ?_, fun x x1 x2 => ?_, ?_, ?_, dmono hd8 (by omega)⟩
        · rw [oput_same]
          simp only [List.map_append, List.append_assoc, List.map_cons, List.map_nil]
          rfl
        · rw [oput_ne hlp.symm, oput_same]
        · rw [oput_ne x1, oput_ne x2]; exact hrest x x1 x2
        · rw [List.map_append, hex, List.take_add_one, hv]; rfl
        · intro z hz
          rcases List.mem_append.mp hz with h | h
          · exact hex2 z h
          · rw [List.mem_singleton] at h
            subst h
            show 0 ≤ 1 + (if t - 2 > 0 then t - 2 else 0) ∧ 1 + (if t - 2 > 0 then t - 2 else 0) ≤ 3
            split <;> omega
    · rintro ρ' O' ⟨x, ex, a, b, c, rfl, hL, hP, hrest, hex, hex2, hd7⟩
      walk_at "vc"
      refine ⟨sortOk_rows _, ?_⟩
      obtain ⟨rows, pr, er⟩ := sort_rows (((us.take (2 + r).toNat).map fun x => (x, (0 : Int))) ++ ex)
      rw [er]
      have hl4 : (List.map D.str (vs.take (1 + s).toNat)).length ≤ 4 := by rw [List.length_map, List.length_take]; omega
      rw [List.length_map, List.take_length] at hex
      have hnm : (((us.take (2 + r).toNat).map fun x => (x, (0 : Int))) ++ ex).map (·.1) = us.take (2 + r).toNat ++ vs.take (1 + s).toNat := by
        rw [List.map_append, hex, List.map_map]
        have e : ((fun (x : List Nat × Int) => x.1) ∘ fun (x : List Nat) => (x, (0 : Int))) = id := rfl
        rw [e, List.map_id]
      have hk8 : ∀ r ∈ rows, r.1 ≠ [107] ∧ r.1 ≠ [107, 107] := fun z hz => by
        have hz2 := pr.mem_iff.mp hz
        rcases List.mem_append.mp hz2 with h | h
        · obtain ⟨u, hu, rfl⟩ := List.mem_map.mp h
          exact hwk u (pu.mem_iff.mp (List.mem_of_mem_take hu))
        · have h5 : z.1 ∈ ex.map (·.1) := List.mem_map.mpr ⟨z, h, rfl⟩
          rw [hex] at h5
          have h6 := pv.mem_iff.mp (List.mem_of_mem_take h5)
          have : ∀ w ∈ fnms, w ≠ [107] ∧ w ≠ [107, 107] := by decide +kernel
          exact this _ h6
      have hl8 : rows.length ≤ 8 := by
        have h7 := congrArg List.length hnm
        rw [List.length_map] at h7
        rw [pr.length_eq, h7, List.length_append, List.length_take, List.length_take, pu.length_eq]
        omega
      refine ⟨oput O p (dc a b c), fun x d hx => ?_, q rows a b c ⟨fun z hz => ?_, ?_, ?_, by omega⟩ ⟨hl8, hk8⟩ (dmono hd7 (by omega))⟩
      · unfold oput at hx
        split at hx
        · rename_i e; rw [e, hP]; exact hx
        · rename_i e
          have hxl : x ≠ l := fun e2 => by rw [e2, hl0] at hx; cases hx
          rw [hrest x hxl e]; exact hx
      · have hz2 := pr.mem_iff.mp hz
        rcases List.mem_append.mp hz2 with h | h
        · obtain ⟨u, hu, rfl⟩ := List.mem_map.mp h
          exact ⟨hw2 u (pu.mem_iff.mp (List.mem_of_mem_take hu)), Int.le_refl 0, (by decide : (0 : Int) ≤ 3)⟩
        · have h5 : z.1 ∈ ex.map (·.1) := List.mem_map.mpr ⟨z, h, rfl⟩
          rw [hex] at h5
          have h6 := pv.mem_iff.mp (List.mem_of_mem_take h5)
          refine ⟨?_, hex2 z h⟩
          have : ∀ w ∈ fnms, isNm w = true := by decide +kernel
          exact this _ h6
      · have hne : us.take (2 + r).toNat ≠ [] := fun e => by
          have := congrArg List.length e
          rw [List.length_take, pu.length_eq, List.length_nil] at this
          omega
        obtain ⟨u, us2, e⟩ := List.exists_cons_of_ne_nil hne
        exact ⟨(u, 0), pr.mem_iff.mpr (List.mem_append.mpr (.inl (List.mem_map.mpr ⟨u, by rw [e]; exact List.mem_cons_self, rfl⟩))), rfl⟩
      · rw [(pr.map (·.1)).nodup_iff, hnm, List.nodup_append]
        refine ⟨(pu.nodup_iff.mpr hw3).sublist (List.take_sublist _ _), (pv.nodup_iff.mpr (by decide)).sublist (List.take_sublist _ _), fun x hx y hy e => ?_⟩
        subst e
        exact hw4 x (pu.mem_iff.mp (List.mem_of_mem_take hx)) (pv.mem_iff.mp (List.mem_of_mem_take hy))
end
end K03

namespace K03
open PySem PySem.Spec PyProof.Rows L2 DS
local macro_rules | `(tactic| walk_at "s") => `(tactic| first
  | with_reducible refine w_seq ?_
  | with_reducible refine w_lc ?_
  | with_reducible refine w_next ?_
  | with_reducible refine w_drop ?_
  | with_reducible refine w_ret ?_
  | with_reducible refine w_retN ?_
  | with_reducible refine w_if ?_
  | with_reducible refine w_asg ?_
  | with_reducible refine w_set ?_
  | with_reducible refine w_par ?_
  | with_reducible refine w_two ?_
  | with_reducible refine w_gnm ?_
  | with_reducible refine w_raise ?_
  | with_reducible refine w_break ?_
  | with_reducible refine w_cont ?_
  | with_reducible refine w_c ?_
  | with_reducible refine w_op ?_
  | with_reducible refine w_un ?_
  | with_reducible refine w_b ?_
  | with_reducible refine w_m ?_
  | with_reducible refine w_nil ?_
  | with_reducible refine w_cons ?_
  | with_reducible refine w_val ?_
  | with_reducible refine w_asB ?_
  | with_reducible refine w_and ?_
  | with_reducible refine w_or ?_
  | with_reducible refine w_not ?_
  | with_reducible refine w_andV ?_
  | with_reducible refine w_orV ?_
  | with_reducible refine w_notE ?_
  | with_reducible refine w_notV ?_
  | with_reducible refine w_ifE ?_
  | with_reducible refine w_ift ?_
  | with_reducible refine w_iff ?_
  | with_reducible refine w_tup ?_
  | with_reducible refine w_lst ?_
  | with_reducible refine w_lstM ?_
  | with_reducible refine w_sl ?_
  | with_reducible refine w_on ?_
  | with_reducible refine w_os ?_
  | with_reducible refine w_slS ?_
  | with_reducible refine w_slT ?_
  | with_reducible refine w_slL ?_
  | with_reducible refine w_call ?_
  | with_reducible refine w_frz ?_
  | with_reducible refine w_addI ?_
  | with_reducible refine w_sub ?_
  | with_reducible refine w_inc ?_
  | with_reducible refine w_neg ?_
  | with_reducible refine w_lt ?_
  | with_reducible refine w_le ?_
  | with_reducible refine w_gt ?_
  | with_reducible refine w_ge ?_
  | with_reducible refine w_eqI ?_
  | with_reducible refine w_neI ?_
  | with_reducible refine w_eqS ?_
  | with_reducible refine w_neS ?_
  | with_reducible refine w_lenS ?_
  | with_reducible refine w_lenT ?_
  | with_reducible refine w_lenL ?_
  | with_reducible refine w_lenF ?_
  | with_reducible refine w_lenD ?_
  | with_reducible refine w_int ?_
  | with_reducible refine w_intB ?_
  | with_reducible refine w_abs ?_
  | with_reducible refine w_max ?_
  | with_reducible refine w_min ?_
  | with_reducible refine w_tupL ?_
  | with_reducible refine w_tupT ?_
  | with_reducible refine w_listL ?_
  | with_reducible refine w_listT ?_
  | with_reducible refine w_listML ?_
  | with_reducible refine w_listMT ?_
  | with_reducible refine w_chain ?_
  | with_reducible refine w_vint ?_
  | with_reducible refine w_vbl ?_
  | with_reducible refine w_vnon ?_
  | with_reducible refine w_vstr ?_
  | with_reducible refine w_vtup ?_
  | with_reducible refine w_vlst ?_
  | with_reducible refine w_vfl ?_
  | with_reducible refine w_vdic ?_
  | with_reducible refine w_vty ?_
  | with_reducible refine w_vtm ?_
  | with_reducible refine w_vsn ?_
  | with_reducible refine w_vsc ?_
  | with_reducible refine w_starT ?_
  | with_reducible refine w_starL ?_
  | with_reducible refine w_inS ?_
  | with_reducible refine w_asD ?_
  | with_reducible refine w_asO ?_
  | with_reducible refine w_ifnt ?_
  | with_reducible refine w_ifnf ?_
  | with_reducible refine w_oi ?_
  | with_reducible refine w_it ?_
  | with_reducible refine w_itT ?_
  | with_reducible refine w_itL ?_
  | with_reducible refine w_itF ?_
  | with_reducible refine w_itS ?_
  | with_reducible refine w_rg1 ?_
  | with_reducible refine w_rg2 ?_
  | with_reducible refine w_star ?_
  | with_reducible refine w_for ?_
  | with_reducible refine w_joined ?_
  | with_reducible refine w_jsn ?_
  | with_reducible refine w_jsc ?_
  | with_reducible refine w_fmt ?_
  | with_reducible refine w_fmtS ?_
  | with_reducible refine w_setd ?_
  | with_reducible refine w_newK ?_
  | with_reducible refine w_lenSet ?_
  | with_reducible refine w_try ?_
  | with_reducible refine w_put ?_
  | ((with_reducible refine' w_var ?h ?_); (case h => exact rfl))
  | ((with_reducible refine' w_aug ?h ?_); (case h => exact rfl))
  | ((with_reducible refine' w_own ?h ?_); (case h => assumption))
  | ((with_reducible refine' w_frzO ?h ?_); (case h => assumption))
  | ((with_reducible refine' w_isN ?h ?_); (case h => exact rfl))
  | ((with_reducible refine' w_notN ?h ?_); (case h => exact rfl))
  | ((with_reducible refine' w_gtp ?h ?_); (case h => exact rfl))
  | ((with_reducible refine' w_mod ?h ?_); (case h => decide))
  | ((with_reducible refine' w_itO ?h ?_); (case h => assumption))
  | ((with_reducible refine' w_isiY ?h1 ?h2 ?h3 ?h4 ?_); (case h1 => exact rfl); (case h4 => decide); (case h2 => decide); (case h3 => (intro _ hh; cases hh)))
  | ((with_reducible refine' w_isiN ?h1 ?h2 ?h3 ?h4 ?_); (case h1 => exact rfl); (case h4 => decide); (case h2 => decide); (case h3 => (intro _ hh; cases hh)))
  | ((with_reducible refine And.intro ?h ?_); (case h => (show Sz _; first | decide | (simp only [List.length_cons, List.length_nil]; decide) | assumption))))
local macro_rules | `(tactic| walk_at "vc") => `(tactic| repeat walk_at "s")
section
variable {P : Program} {w : World} {K : PySem.W.Frag} {mg : Str → Option Value} {base : Heap} {f : Addr} {fd : FuncData} {C : Str → Addr} {k : Nat}
def sp_term : Nat → DSp
  | 0 => fun _ _ _ _ => False
  | e + 1 => fun ds O Q _ => ∃ (p : Addr) (rows : List (List Nat × Int)) (m a b c : Int) (n : Nat), ds = [.atm (.ref p), .lst (rows.map rowD'), .int m] ∧ NamesOk rows ∧ m ≤ e + 1 ∧ O p = some (dc a b c) ∧ DcOk n a b c ∧ n + rl e ≤ 2 ^ 40 ∧
    ∀ t a b c, fits rows t = true → tdep t ≤ e + 1 → (subs t).length ≤ nb e → DcOk (n + rl e) a b c → Q (tD t) (oput O p (dc a b c))
theorem sp_term_len : ∀ e ds O Q E, sp_term e ds O Q E → ds.length = 3
  | 0, _, _, _, _, h => h.elim
  | e + 1, ds, O, Q, E, h => by
    obtain ⟨p, rows, m, a, b, c, n, rfl, _⟩ := h
    rfl
abbrev N__law_term : List Str := ["dice", "names", "deep", "some", "name", "places", "row", "turn"]
theorem sc__law_term : FnScope N__law_term ["dice", "names", "deep"] (defScope s__law_term) := ⟨rfl, rfl, rfl, by decide +kernel, rfl, by decide +kernel, by decide +kernel⟩
theorem ok__law_term (F : FnP K "_law_term" s__law_term f fd) (g : Gs K mg C) {e : Nat} (c__law_term : DFn P w K mg base "_law_term" k (sp_term e)) (c__law_pick : DFn P w K mg base "_law_pick" k sp_pick) (c__law_roll : DFn P w K mg base "_law_roll" k sp_roll)  : FnOk P w K mg base (CX P w) (k + 1) f fd ["dice", "names", "deep"] (liftF K (sp_term (e + 1))) := by
  refine okD2 (t := fun W => _) F sc__law_term ?_ (fun cdv A outer s H E F0 W tk hr => (dss_cons (ds_setLc (i := 3) (own := [("row", 6)]) (tgt := .one 6) fin_data rfl sc__law_term.nd rfl rfl (sw_true rfl rfl rfl (by decide +kernel)) (di_any (dv 1)) (blkOk_by (N := N__law_term) (sc := defScope s__law_term) (by decide +kernel)) List.mem_cons_self (fun _ _ _ _ _ => pg_name (i := 6) sc__law_term.nd rfl (by first | exact Or.inl rfl | exact Or.inr rfl)) (fun _ _ _ _ _ _ => dts_one (dt_cmp (op_eqV (un200 hr)) l_eq (de_at hr (dv 6) de_int) de_int rfl)) (fun _ _ _ _ _ _ => (dv 6))) (dss_cons (ds_if (dt_w (dw_and (dt_cmp op_gt l_gt (dv 2) de_int rfl) (dw_and1 (dt_cmp op_gt l_gt (de_call c__law_roll hr (passD tk) rfl (da_cons (dv 0) (da_cons de_int da_nil))) de_int rfl)))) (dss_one (ds_set (i := 3) sc__law_term.nd rfl (.inl rfl) (dv 1))) dss_nil) (dss_cons (ds_asg (de_call c__law_pick hr (passD tk) rfl (da_cons (dv 0) (da_cons (dv 3) da_nil))) (dg_tup (is := [4, 5]) rfl (pgs_cons (pg_name (i := 4) sc__law_term.nd rfl (.inl rfl)) (pgs_cons (pg_name (i := 5) sc__law_term.nd rfl (.inl rfl)) pgs_nil)))) (dss_one (ds_ret (de_op (op_add.or (op_add_str.or (op_catA.or op_cat))) l_add (de_tup (da_cons (dv 4) da_nil)) (de_bt call_tuple_of l_tup rfl g.f_tuple rfl (da_cons (de_lc (own := [("turn", 7)]) (tgt := .one 7) fin_data rfl sc__law_term.nd (di_rg1 rfl g.f_range (da_cons (dv 5) da_nil)) (blkOk_by (N := N__law_term) (sc := defScope s__law_term) (by decide +kernel)) List.mem_cons_self (fun _ _ _ _ _ => pg_name (i := 7) sc__law_term.nd rfl (by first | exact Or.inl rfl | exact Or.inr rfl)) (fun _ _ _ _ _ _ => dts_nil) (fun _ _ _ _ _ _ => (de_call c__law_term hr (passD0) rfl (da_cons (dv 0) (da_cons (dv 1) (da_cons (de_op op_sub l_sub (dv 2) de_int) da_nil)))))) da_nil))))))))) ?_
  · exact sp_term_len (e + 1)
  · rintro ds O Q E ⟨p, rows, m, a, b, c, n, rfl, hr, hm, hO, hd, hn, q⟩
    have hrl : 2 ≤ rl e := by cases e <;> simp [rl]
    obtain ⟨hr1, ⟨r0, hr0, hz0⟩, hr3, hr4⟩ := hr
    refine w_seq ?_
    walk_at "vc"
    refine lcq_pure rows rowD' (fun r => decide (r.2 = 0)) rowD' trivial (fun r _ => ⟨fun kk hk => ?_, fun _ kk hk => ?_⟩) ?_
    · unfold rowD'
      walk_at "vc"
      refine w_atT atI_one ?_
      walk_at "vc"
      exact hk
    · unfold rowD'
      walk_at "vc"
      exact hk
    refine w_asD ?_
    dsimp only
    refine w_seqJ (fun ρ' O' => ∃ (sel : List (List Nat × Int)) (a b c : Int), ρ' = [some (.atm (.ref p)), some (.lst (rows.map rowD')), some (.int m), some (.lst (sel.map rowD')), none, none, none, none] ∧ O' = oput O p (dc a b c) ∧ DcOk (n + 1) a b c ∧ (∀ r ∈ sel, r ∈ rows) ∧ sel ≠ [] ∧ sel.length ≤ 1000000 ∧ (m ≤ 1 → ∀ r ∈ sel, r.2 = 0)) (fun J hJ => ?_) ?_
    · have hfil : rows.filter (fun r => decide (r.2 = 0)) ≠ [] := List.ne_nil_of_mem (List.mem_filter.mpr ⟨hr0, decide_eq_true hz0⟩)
      walk_at "vc"
      refine w_ifd (fun h1 => ?_) fun h1 => ?_
      · walk_at "vc"
        refine ⟨p, 3, a, b, c, n, rfl, by decide, by decide, hO, hd, by omega, fun r a b c r1 r2 hd2 => ?_⟩
        walk_at "vc"
        refine w_ifd (fun h2 => ?_) fun h2 => ?_
        · walk_at "vc"
          exact hJ _ _ ⟨rows, a, b, c, rfl, rfl, hd2, fun _ h => h, List.ne_nil_of_mem hr0, by omega, fun z => by omega⟩
        · walk_at "vc"
          exact hJ _ _ ⟨rows.filter (fun r => decide (r.2 = 0)), a, b, c, rfl, rfl, hd2, fun r h => (List.mem_filter.mp h).1, hfil, Nat.le_trans (List.length_filter_le _ _) (by omega), fun z => by omega⟩
      · walk_at "vc"
        refine hJ _ _ ⟨rows.filter (fun r => decide (r.2 = 0)), a, b, c, rfl, ?_, dmono hd (by omega), fun r h => (List.mem_filter.mp h).1, hfil, Nat.le_trans (List.length_filter_le _ _) (by omega), fun _ r h => of_decide_eq_true (List.mem_filter.mp h).2⟩
        funext x
        unfold oput
        split
        · rename_i e1; rw [e1, hO]
        · rfl
    · rintro ρ' O' ⟨sel, a, b, c, rfl, rfl, hd2, hs1, hs2, hs4, hs3⟩
      have hsl : 1 ≤ sel.length := List.length_pos_iff.mpr hs2
      walk_at "vc"
      have hsl2 : sel.length ≤ 1000000 ∨ True := .inr trivial
      refine ⟨p, sel.map rowD', a, b, c, n + 1, rfl, by rw [List.length_map]; exact hsl, by rw [List.length_map]; exact hs4, oput_same, hd2, by omega, fun x a b c hx hd3 => ?_⟩
      obtain ⟨r, hrs, rfl⟩ := List.mem_map.mp hx
      obtain ⟨nm, pl⟩ := r
      obtain ⟨hn1, hp0, hp3⟩ := hr1 _ (hs1 _ hrs)
      have hpl : m ≤ 1 → pl = 0 := fun h => hs3 h _ hrs
      rw [oput_oput]
      unfold rowD'
      walk_at "vc"
      refine w_rg1q (by omega) (by omega) ?_
      have e0 : rgD 0 pl.toNat = (List.range pl.toNat).map fun i => D.int (0 + (i : Nat)) := rfl
      have hnm : (List.map rowD' rows) = List.map (fun r => D.tup [D.str r.1, D.int r.2]) rows := rfl
      refine ⟨fun i acc O' => ∃ (ts : List Trm) (a b c : Int), acc = ts.map tD ∧ ts.length = i ∧ (∀ t ∈ ts, fits rows t = true ∧ tdep t ≤ e ∧ (subs t).length ≤ nb (e - 1)) ∧ O' = oput O p (dc a b c) ∧ DcOk (n + 2 + i * rl (e - 1)) a b c, ⟨[], a, b, c, rfl, rfl, fun _ h => (by cases h), rfl, dmono hd3 (by omega)⟩, fun _ _ _ _ _ => trivial, ?_, ?_⟩
      · rintro i d acc O' hi ⟨ts, a, b, c, rfl, hl, hts, rfl, hd4⟩
        have hi2 : i < pl.toNat := by
          have := (List.getElem?_eq_some_iff.mp hi).1
          rw [e0, List.length_map, List.length_range] at this
          exact this
        have hm1 : 1 < m := by
          refine Classical.byContradiction fun z => ?_
          have := hpl (by omega)
          omega
        obtain ⟨e, rfl⟩ : ∃ e1, e = e1 + 1 := ⟨e - 1, by omega⟩
        have e6 : e + 1 - 1 = e := by omega
        rw [e6] at hts hd4 ⊢
        have hrl2 : rl (e + 1) = 2 + 3 * rl e := rfl
        have hi3 : i ≤ 2 := by omega
        have hir : i * rl e + rl e ≤ 3 * rl e := by
          have := Nat.mul_le_mul_right (rl e) (show i + 1 ≤ 3 by omega)
          rw [Nat.succ_mul] at this
          exact this
        refine w_tone ?_
        refine w_yes ?_
        walk_at "vc"
        refine ⟨p, rows, m - 1, a, b, c, n + 2 + i * rl e, rfl, ⟨hr1, ⟨r0, hr0, hz0⟩, hr3, hr4⟩, by omega, oput_same, hd4, by omega, fun t a b c ht1 ht2 ht3 hd5 => ?_⟩
        refine ⟨ts ++ [t], a, b, c, by rw [List.map_append]; rfl, by rw [List.length_append, hl]; rfl, fun u hu => ?_, by rw [oput_oput], dmono hd5 (by rw [Nat.succ_mul]; omega)⟩
        rcases List.mem_append.mp hu with h | h
        · exact hts u h
        · rw [List.mem_singleton] at h
          subst h
          exact ⟨ht1, ht2, ht3⟩
      · rintro acc O' ⟨ts, a, b, c, rfl, hl, hts, rfl, hd4⟩
        rw [e0, List.length_map, List.length_range] at hl hd4
        have hpt : (ts.length : Int) = pl := by omega
        walk_at "vc"
        refine w_addT (by show _ ≤ 16777216; rw [List.length_map]; simp only [List.length_cons, List.length_nil]; omega) ?_
        have hd5 : tdep (.mk nm ts) ≤ e + 1 := by
          rw [tdep]
          have := tdeps_le.mpr fun t ht => (hts t ht).2.1
          omega
        have hsz : (subs (.mk nm ts)).length ≤ nb e ∧ 2 + pl.toNat * rl (e - 1) ≤ rl e := by
          have h5 := subss_len fun t ht => (hts t ht).2.2
          rw [subs, List.length_append, List.length_cons, List.length_nil]
          cases e with
          | zero =>
            have hz : pl = 0 := hpl (by omega)
            subst hz
            have : ts.length = 0 := by omega
            rw [this] at h5
            simp only [Nat.zero_mul] at h5
            refine ⟨by show _ ≤ 1; omega, by simp [rl]⟩
          | succ e =>
            have e6 : e + 1 - 1 = e := by omega
            rw [e6] at h5 ⊢
            have hrl2 : rl (e + 1) = 2 + 3 * rl e := rfl
            have hnb2 : nb (e + 1) = 1 + 3 * nb e := rfl
            have m1 := Nat.mul_le_mul_right (nb e) (show ts.length ≤ 3 by omega)
            have m2 := Nat.mul_le_mul_right (rl e) (show pl.toNat ≤ 3 by omega)
            omega
        have hf : fits rows (.mk nm ts) = true := by
          rw [fits, fitss_all.mpr fun t ht => (hts t ht).1, hpt, decide_eq_true (hs1 _ hrs)]
          rfl
        have q2 := q (.mk nm ts) a b c hf hd5 hsz.1 (dmono hd4 (by omega))
        rw [tD, tDs_eq] at q2
        exact w_q q2
end
end K03

namespace K03
open PySem PySem.Spec PyProof.Rows L2 DS
local macro_rules | `(tactic| walk_at "s") => `(tactic| first
  | with_reducible refine w_seq ?_
  | with_reducible refine w_next ?_
  | with_reducible refine w_drop ?_
  | with_reducible refine w_ret ?_
  | with_reducible refine w_retN ?_
  | with_reducible refine w_if ?_
  | with_reducible refine w_asg ?_
  | with_reducible refine w_set ?_
  | with_reducible refine w_par ?_
  | with_reducible refine w_two ?_
  | with_reducible refine w_gnm ?_
  | with_reducible refine w_raise ?_
  | with_reducible refine w_break ?_
  | with_reducible refine w_cont ?_
  | with_reducible refine w_c ?_
  | with_reducible refine w_op ?_
  | with_reducible refine w_un ?_
  | with_reducible refine w_b ?_
  | with_reducible refine w_m ?_
  | with_reducible refine w_nil ?_
  | with_reducible refine w_cons ?_
  | with_reducible refine w_val ?_
  | with_reducible refine w_asB ?_
  | with_reducible refine w_and ?_
  | with_reducible refine w_or ?_
  | with_reducible refine w_not ?_
  | with_reducible refine w_andV ?_
  | with_reducible refine w_orV ?_
  | with_reducible refine w_notE ?_
  | with_reducible refine w_notV ?_
  | with_reducible refine w_ifE ?_
  | with_reducible refine w_ift ?_
  | with_reducible refine w_iff ?_
  | with_reducible refine w_tup ?_
  | with_reducible refine w_lst ?_
  | with_reducible refine w_lstM ?_
  | with_reducible refine w_sl ?_
  | with_reducible refine w_on ?_
  | with_reducible refine w_os ?_
  | with_reducible refine w_slS ?_
  | with_reducible refine w_slT ?_
  | with_reducible refine w_slL ?_
  | with_reducible refine w_call ?_
  | with_reducible refine w_frz ?_
  | with_reducible refine w_addI ?_
  | with_reducible refine w_sub ?_
  | with_reducible refine w_inc ?_
  | with_reducible refine w_neg ?_
  | with_reducible refine w_lt ?_
  | with_reducible refine w_le ?_
  | with_reducible refine w_gt ?_
  | with_reducible refine w_ge ?_
  | with_reducible refine w_eqI ?_
  | with_reducible refine w_neI ?_
  | with_reducible refine w_eqS ?_
  | with_reducible refine w_neS ?_
  | with_reducible refine w_lenS ?_
  | with_reducible refine w_lenT ?_
  | with_reducible refine w_lenL ?_
  | with_reducible refine w_lenF ?_
  | with_reducible refine w_lenD ?_
  | with_reducible refine w_int ?_
  | with_reducible refine w_intB ?_
  | with_reducible refine w_abs ?_
  | with_reducible refine w_max ?_
  | with_reducible refine w_min ?_
  | with_reducible refine w_tupL ?_
  | with_reducible refine w_tupT ?_
  | with_reducible refine w_listL ?_
  | with_reducible refine w_listT ?_
  | with_reducible refine w_listML ?_
  | with_reducible refine w_listMT ?_
  | with_reducible refine w_chain ?_
  | with_reducible refine w_vint ?_
  | with_reducible refine w_vbl ?_
  | with_reducible refine w_vnon ?_
  | with_reducible refine w_vstr ?_
  | with_reducible refine w_vtup ?_
  | with_reducible refine w_vlst ?_
  | with_reducible refine w_vfl ?_
  | with_reducible refine w_vdic ?_
  | with_reducible refine w_vty ?_
  | with_reducible refine w_vtm ?_
  | with_reducible refine w_vsn ?_
  | with_reducible refine w_vsc ?_
  | with_reducible refine w_starT ?_
  | with_reducible refine w_starL ?_
  | with_reducible refine w_inS ?_
  | with_reducible refine w_asD ?_
  | with_reducible refine w_asO ?_
  | with_reducible refine w_ifnt ?_
  | with_reducible refine w_ifnf ?_
  | with_reducible refine w_oi ?_
  | with_reducible refine w_it ?_
  | with_reducible refine w_itT ?_
  | with_reducible refine w_itL ?_
  | with_reducible refine w_itF ?_
  | with_reducible refine w_itS ?_
  | with_reducible refine w_rg1 ?_
  | with_reducible refine w_rg2 ?_
  | with_reducible refine w_star ?_
  | with_reducible refine w_for ?_
  | with_reducible refine w_joined ?_
  | with_reducible refine w_jsn ?_
  | with_reducible refine w_jsc ?_
  | with_reducible refine w_fmt ?_
  | with_reducible refine w_fmtS ?_
  | with_reducible refine w_setd ?_
  | with_reducible refine w_newK ?_
  | with_reducible refine w_lenSet ?_
  | with_reducible refine w_try ?_
  | with_reducible refine w_put ?_
  | with_reducible refine w_lc ?_
  | ((with_reducible refine' w_var ?h ?_); (case h => exact rfl))
  | ((with_reducible refine' w_aug ?h ?_); (case h => exact rfl))
  | ((with_reducible refine' w_own ?h ?_); (case h => assumption))
  | ((with_reducible refine' w_frzO ?h ?_); (case h => assumption))
  | ((with_reducible refine' w_isN ?h ?_); (case h => exact rfl))
  | ((with_reducible refine' w_notN ?h ?_); (case h => exact rfl))
  | ((with_reducible refine' w_gtp ?h ?_); (case h => exact rfl))
  | ((with_reducible refine' w_mod ?h ?_); (case h => decide))
  | ((with_reducible refine' w_itO ?h ?_); (case h => assumption))
  | ((with_reducible refine' w_isiY ?h1 ?h2 ?h3 ?h4 ?_); (case h1 => exact rfl); (case h4 => decide); (case h2 => decide); (case h3 => (intro _ hh; cases hh)))
  | ((with_reducible refine' w_isiN ?h1 ?h2 ?h3 ?h4 ?_); (case h1 => exact rfl); (case h4 => decide); (case h2 => decide); (case h3 => (intro _ hh; cases hh)))
  | ((with_reducible refine And.intro ?h ?_); (case h => (show Sz _; first | decide | (simp only [List.length_cons, List.length_nil]; decide) | assumption))))
local macro_rules | `(tactic| walk_at "vc") => `(tactic| repeat walk_at "s")
section
variable {P : Program} {w : World} {K : PySem.W.Frag} {mg : Str → Option Value} {base : Heap} {f : Addr} {fd : FuncData} {C : Str → Addr} {k : Nat}
def sp_below (n : Nat) : DSp := fun ds O Q _ => ∃ t : Trm, ds = [tD t] ∧ tdep t ≤ n ∧ (subs t).length ≤ 100000 ∧ Q (.lst ((subs t).map tD)) O
abbrev N__law_below : List Str := ["term", "found", "part"]
theorem sc__law_below : FnScope N__law_below ["term"] (defScope s__law_below) := ⟨rfl, rfl, rfl, by decide +kernel, rfl, by decide +kernel, by decide +kernel⟩
theorem ok__law_below (F : FnP K "_law_below" s__law_below f fd) (g : Gs K mg C) {n : Nat} (c__law_below : DFn P w K mg base "_law_below" k (sp_below n))  : FnOk P w K mg base (CX P w) (k + 1) f fd ["term"] (liftF K (sp_below (n + 1))) := by
  refine okD2 (t := fun W => _) F sc__law_below ?_ (fun cdv A outer s H E F0 W tk hr => (dss_cons (ds_set (i := 1) sc__law_below.nd rfl (.inl rfl) (de_lst da_nil)) (dss_cons (ds_for (passes_of rfl) rfl (di_any (de_slice (dv 0) (do_some de_int) do_none)) (dg_name (i := 2) sc__law_below.nd rfl (.inl rfl)) (dss_one (ds_set (i := 1) sc__law_below.nd rfl (.inl rfl) (de_op (op_add.or (op_add_str.or (op_catA.or op_cat))) l_add (dv 1) (de_call c__law_below hr (passD tk) rfl (da_cons (dv 2) da_nil)))))) (dss_one (ds_ret (de_op (op_add.or (op_add_str.or (op_catA.or op_cat))) l_add (dv 1) (de_lst (da_cons (dv 0) da_nil)))))))) ?_
  · rintro ds O Q E ⟨t, rfl, _⟩; rfl
  · rintro ds O Q E ⟨⟨nm, ps⟩, rfl, hd, hz, q⟩
    rw [tdep] at hd
    have hd2 : ∀ t ∈ ps, tdep t ≤ n := tdeps_le.mp (by omega)
    have hz2 : (subss ps).length + 1 ≤ 100000 := by rw [subs, List.length_append] at hz; exact hz
    rw [tD]
    walk_at "vc"
    rw [dcut_tail, tDs_eq]
    refine ⟨fun i ρ' O' => ∃ x, ρ' = [some (.tup (.str nm :: ps.map tD)), some (.lst ((subss (ps.take i)).map tD)), x] ∧ O' = O, ⟨none, rfl, rfl⟩, fun _ _ _ _ _ => trivial, ?_, ?_⟩
    · rintro i d ρ' O' hi ⟨x, rfl, rfl⟩
      rw [List.getElem?_map] at hi
      cases ht : ps[i]? with
      | none => rw [ht] at hi; cases hi
      | some t =>
        rw [ht] at hi
        cases hi
        have hm : t ∈ ps := List.mem_of_getElem? ht
        walk_at "vc"
        refine ⟨t, rfl, hd2 t hm, Nat.le_trans (subss_le hm) (by omega), ?_⟩
        walk_at "vc"
        have hl : (subss (ps.take (i + 1))).length ≤ 100000 := Nat.le_trans (subss_take ps _) (by omega)
        have et : subss (ps.take (i + 1)) = subss (ps.take i) ++ subs t := by rw [List.take_add_one, ht, subss_app]; simp [subss]
        refine w_addL ?_ ?_
        · rw [et, List.length_append] at hl
          show _ ≤ 16777216
          simp only [List.length_map]
          omega
        · walk_at "vc"
          refine ⟨some (tD t), ?_, rfl⟩
          rw [et, List.map_append]
          rfl
    · rintro ρ' O' ⟨x, rfl, rfl⟩
      rw [List.length_map, List.take_length]
      walk_at "vc"
      refine w_addL (by show _ ≤ 16777216; simp only [List.length_map, List.length_cons, List.length_nil]; omega) ?_
      have e : (subs (.mk nm ps)).map tD = (subss ps).map tD ++ [.tup (.str nm :: tDs ps)] := by rw [subs, List.map_append]; rfl
      rw [e, tDs_eq] at q
      exact w_q q
end
end K03

namespace DS
open PySem PySem.Spec PyProof.Rows
/-! ### sets with their tables, keys of any kind that goes by value -/
def Keys {prog : Program} {w : World} {K : Type} [DecidableEq K] (knd : KeyKind prog w K) : List (Int × Value) → List K → Prop := Paired fun e k => knd.is k e.2 = true
section
variable {P : Program} {w : World} {K : Type} [DecidableEq K] {knd : KeyKind P w K}
theorem Keys.perm {l l' : List (Int × Value)} (p : l'.Perm l) : ∀ {ks : List K}, Keys knd l ks → ∃ ks' : List K, ks'.Perm ks ∧ Keys knd l' ks' := by
  induction p with
  | nil => intro ks h; exact ⟨ks, .refl _, h⟩
  | cons x _ ih =>
    intro ks h
    cases h with
    | cons a b =>
      obtain ⟨ks', h1, h2⟩ := ih b
      exact ⟨_ :: ks', h1.cons _, .cons a h2⟩
  | swap x y l =>
    intro ks h
    cases h with
    | cons a b =>
      cases b with
      | cons b c => exact ⟨_, .swap _ _ _, .cons b (.cons a c)⟩
  | trans _ _ ih1 ih2 =>
    intro ks h
    obtain ⟨k1, h1, h2⟩ := ih2 h
    obtain ⟨k2, h3, h4⟩ := ih1 h2
    exact ⟨k2, h3.trans h1, h4⟩
theorem Keys.app : ∀ {l m : List (Int × Value)} {ks js : List K}, Keys knd l ks → Keys knd m js → Keys knd (l ++ m) (ks ++ js)
  | _, _, _, _, .nil, h => h
  | _, _, _, _, .cons a b, h => .cons a (Keys.app b h)
theorem Keys.mem : ∀ {l : List (Int × Value)} {ks : List K}, Keys knd l ks → ∀ k, k ∈ ks ↔ ∃ e ∈ l, knd.is k e.2 = true
  | _, _, .nil, k => by simp
  | _, _, .cons (a := e) (b := j) h r, k => by
    rw [List.mem_cons, Keys.mem r k]
    constructor
    · rintro (rfl | ⟨e', h1, h2⟩)
      · exact ⟨e, List.mem_cons_self, h⟩
      · exact ⟨e', List.mem_cons_of_mem _ h1, h2⟩
    · rintro ⟨e', h1, h2⟩
      rcases List.mem_cons.mp h1 with z | z
      · subst z; exact .inl (knd.inj _ _ _ h2 h)
      · exact .inr ⟨e', z, h2⟩
theorem Keys.len {l : List (Int × Value)} {ks : List K} (h : Keys knd l ks) : l.length = ks.length := Paired.length h
/-- the set at a: its keys in the table's order; the table can be walked -/
structure SetW (knd : KeyKind P w K) (h : Heap) (a : Addr) (ks : List K) (o : Obj) (es : Array (Int × Value)) (ep : Nat) (t : SetTable) : Prop where
  at_ : h.get? a = some o
  ex : o.ExactSet
  dat : o.data = .set es ep t
  el : ElemsOf knd es.toList
  keys : Keys knd es.toList ks
  nd : ks.Nodup
  few : es.size < scanBound
  fits : t.fits es.size = true
  ris : L2.Ris t.place.toList
  led : w.params.followText "set-order" = true ∨ t.led = true

def SetsW (knd : KeyKind P w K) (h : Heap) (a : Addr) (ks : List K) : Prop := ∃ o es ep t, SetW knd h a ks o es ep t
theorem SetsW.at {h h' : Heap} {a : Addr} {ks : List K} (R : SetsW knd h a ks) (k : ∀ o, h.get? a = some o → h'.get? a = some o) : SetsW knd h' a ks := by
  obtain ⟨o, es, ep, t, R⟩ := R
  exact ⟨o, es, ep, t, { R with at_ := k o R.at_ }⟩
variable {A : Around} {E : Value → Shared → Prop} {s : Shared} {a : Addr}
/-- what stands behind the new entry: perhaps all is laid anew -/
theorem setW_tail {g : Bool → Sem Unit} (hg : ∀ (b : Bool) (s₁ : Shared) (Q' : Unit → Shared → Prop), Q' () s₁ → wpAny (model P w) A (g b) Q' E s₁) {o : Obj} {es es1 : Array (Int × Value)} {ep : Nat} {t t2 : SetTable} {js : List K} {dm : Bool} {R : Option Bool → Shared → Prop}
    (ho : s.heap.get? a = some o) (hex : o.ExactSet) (hd : o.data = .set es ep t) (el : ElemsOf knd es1.toList) (ky : Keys knd es1.toList js) (nd : js.Nodup) (few : es1.size < scanBound) (fits : t2.fits es1.size = true) (ris : L2.Ris t2.place.toList) (led : w.params.followText "set-order" = true ∨ t2.led = true)
    (hR : ∀ h' js', Heap.SameBut a s.heap h' → SetsW knd h' a js' → js'.Perm js → R (some true) { s with heap := h' }) :
    wpAny (model P w) A (do
        storeSet a es1 t2
        if (!dm && t2.tooFull) = true then do
            g (relayAll t2 es1 (SetTable.grown es1.size)).2.2
            storeSet a (relayAll t2 es1 (SetTable.grown es1.size)).1 (relayAll t2 es1 (SetTable.grown es1.size)).2.1
            pure (some true)
          else pure (some true)) R E s := by
  have put := L2.store_at (es' := es1) (t' := t2) ho hd
  have same := Heap.SameBut.update s.heap a (Obj.putSet es1 t2)
  refine wpAny_bind (wpAny_storeSet_of ho hd ?_ (fits_of_scanBound few))
  by_cases c : (!dm && t2.tooFull) = true
  · rw [if_pos c]
    have q1 := relayAll_perm t2 es1 (SetTable.grown es1.size)
    have q2 := relayAll_fits t2 es1 (SetTable.grown es1.size)
    have q3 := L2.relayAll_ris t2 es1 (SetTable.grown es1.size)
    have q4 := L2.relayAll_led t2 es1 (SetTable.grown es1.size)
    revert q1 q2 q3 q4
    generalize relayAll t2 es1 (SetTable.grown es1.size) = z
    obtain ⟨es2, t3, gave⟩ := z
    intro q1 q2 q3 q4
    dsimp only at q1 q2 q3 q4 ⊢
    obtain ⟨js', p, ky'⟩ := ky.perm q1
    have sz : es2.size = es1.size := by simpa using q1.length_eq
    refine wpAny_bind (hg _ _ _ (wpAny_bind (wpAny_storeSet_of put rfl ?_ (fits_of_scanBound (by rw [sz]; exact few)))))
    exact wpAny_pure (hR _ js' (same.trans (Heap.SameBut.update _ a _)) ⟨_, es2, _, t3, L2.store_at (es' := es2) (t' := t3) put rfl, hex, rfl, fun e he => el e (q1.mem_iff.mp he), ky', p.nodup_iff.mpr nd, by rw [sz]; exact few, q2, q3, led.imp id fun z => q4.trans z⟩ p)
  · rw [if_neg c]
    exact wpAny_pure (hR _ js same ⟨_, es1, _, t2, put, hex, rfl, el, ky, nd, few, fits, ris, led⟩ (.refl _))
theorem setW_add {ks : List K} {k : K} {x : Value} {Q : Bool → Shared → Prop} (hkey : knd.is k x = true) (hsc : x.scannable = true) (R : SetsW knd s.heap a ks) (room : ks.length + 1 < scanBound)
    (hQ : ∀ (b : Bool) (h' : Heap) (js : List K), Heap.SameBut a s.heap h' → SetsW knd h' a js → (∀ j, j ∈ js ↔ j ∈ ks ∨ j = k) → Q b { s with heap := h' }) :
    wpAny (model P w) A (setAddHashed a x (knd.hash k)) Q E s := by
  obtain ⟨o, es, ep, t, R⟩ := R
  unfold setAddHashed setAddHashedIn
  refine wpAny_holding (wpAny_bind (wpAny_setState_of R.at_ R.dat R.fits ?_))
  dsimp only
  rw [byScan_of hsc R.few R.el]
  simp only [↓reduceIte]
  unfold setAddByScan
  refine wpAny_bind (wpAny_bind (wpAny_rule (wpAny_bind (wpAny_setScan_of hkey R.at_ R.dat R.fits R.el ?_))))
  cases hf : List.findIdx? (fun e => knd.is k e.2) es.toList with
  | some j =>
    dsimp only
    obtain ⟨hj, pj, _⟩ := List.findIdx?_eq_some_iff_getElem.mp hf
    have hm : k ∈ ks := (R.keys.mem k).mpr ⟨_, List.getElem_mem hj, pj⟩
    refine wpAny_pure (wpAny_pure (hQ _ s.heap ks (Heap.SameBut.refl a s.heap) ⟨o, es, ep, t, R⟩ fun i => ⟨.inl, fun z => z.elim id fun e => e ▸ hm⟩))
  | none =>
    dsimp only
    have nk : k ∉ ks := fun z => by
      obtain ⟨e, he, q⟩ := (R.keys.mem k).mp z
      have c := List.findIdx?_eq_none_iff.mp hf e he
      rw [q] at c
      cases c
    have gw : ∀ (b : Bool) {s₁ : Shared} {Q' : Unit → Shared → Prop}, Q' () s₁ → wpAny (model P w) A (match b with | true => rule "set.scan.the-table-gave-way" | false => pure ()) Q' E s₁ := fun b s₁ Q' q => by cases b <;> first | exact wpAny_pure q | exact wpAny_rule q
    have q1 := layNew_perm t es (knd.hash k) x
    have q2 := layNew_fits t es (knd.hash k) x
    have q3 := L2.layNew_ris t es (knd.hash k) x R.ris
    have q4 := L2.layNew_led t es (knd.hash k) x
    revert q1 q2 q3 q4
    generalize layNew t es (knd.hash k) x = z
    obtain ⟨es1, t1, dm, gave⟩ := z
    intro q1 q2 q3 q4
    dsimp only at q1 q2 q3 q4 ⊢
    rw [Array.toList_push] at q1
    obtain ⟨js, p, ky⟩ := (R.keys.app (Paired.cons (a := (knd.hash k, x)) (b := k) hkey .nil)).perm q1
    have el1 : ElemsOf knd es1.toList := fun e he => by
      rcases List.mem_append.mp (q1.mem_iff.mp he) with z | z
      · exact R.el e z
      · rw [List.mem_singleton.mp z]; exact ⟨⟨k, hkey, rfl⟩, hsc⟩
    have nd1 : js.Nodup := p.nodup_iff.mpr (List.nodup_append.mpr ⟨R.nd, by simp, fun u hu v hv e => nk (by rw [← List.mem_singleton.mp hv, ← e]; exact hu)⟩)
    have sz1 : es1.size = ks.length + 1 := by
      have z1 := ky.len
      have z2 := p.length_eq
      simp only [Array.length_toList, List.length_append, List.length_singleton] at z1 z2
      omega
    have mem : ∀ i, i ∈ js ↔ i ∈ ks ∨ i = k := fun i => by rw [p.mem_iff, List.mem_append, List.mem_singleton]
    have led1 : w.params.followText "set-order" = true ∨ t1.led = true := R.led.imp id fun z => q4.trans z
    refine wpAny_bind (gw _ ?_)
    split
    · refine wpAny_bind ?_
      rw [hashByValue_scannable 8 hsc]
      refine wpAny_pure ?_
      refine setW_tail ?_ R.at_ R.ex R.dat el1 ky nd1 (by rw [sz1]; exact room) ?_ ?_ ?_ ?_
      · intro b s₁ Q' q; cases b <;> first | exact wpAny_pure q | exact wpAny_rule q
      · first | (split <;> first | exact q2 | exact SetTable.fits_plain_off q2) | exact q2
      · first | (split <;> exact q3) | exact q3
      · first | (split <;> exact led1) | exact led1
      · intro h' js' sb r pj; dsimp only; exact wpAny_pure (hQ _ h' js' sb r fun i => (pj.mem_iff).trans (mem i))
    · refine wpAny_bind (wpAny_pure ?_)
      simp only [↓reduceIte]
      refine setW_tail ?_ R.at_ R.ex R.dat el1 ky nd1 (by rw [sz1]; exact room) q2 q3 led1 ?_
      · intro b s₁ Q' q; cases b <;> first | exact wpAny_pure q | exact wpAny_rule q
      · intro h' js' sb r pj; dsimp only; exact wpAny_pure (hQ _ h' js' sb r fun i => (pj.mem_iff).trans (mem i))
end
end DS

namespace DS
open PySem PySem.Spec PyProof.Rows
/-! ### sorted(set(xs)) of texts -/
section
variable {P : Program} {w : World} {A : Around} {E : Value → Shared → Prop} {s : Shared}
def Jw (P : Program) (w : World) (S : Addr) (xs : List Str) (i : Nat) (h : Heap) : Prop := ∃ ks : List Str, (∀ x, x ∈ ks ↔ x ∈ xs.take i) ∧ SetsW (PySem.strKind P w) h S ks
theorem nodup_le {α : Type} [DecidableEq α] : ∀ {l m : List α}, l.Nodup → (∀ x ∈ l, x ∈ m) → l.length ≤ m.length
  | [], _, _, _ => Nat.zero_le _
  | y :: l, m, n, h => by
    obtain ⟨a, b⟩ := List.nodup_cons.mp n
    obtain ⟨u, v, rfl⟩ := List.append_of_mem (h y List.mem_cons_self)
    have := nodup_le (m := u ++ v) b fun z hz => by
      have h2 := h z (List.mem_cons_of_mem _ hz)
      simp only [List.mem_append, List.mem_cons] at h2 ⊢
      rcases h2 with h | h | h
      · exact .inl h
      · subst h; exact absurd hz a
      · exact .inr h
    simp only [List.length_append, List.length_cons] at this ⊢
    omega
theorem setW_strs {l : Addr} {items : Array Value} {xs : List Str} {Q : Value → Shared → Prop} (hh : A.handled = none) (hl : s.heap.IsList l items) (hb : xs.length + 1 < scanBound) (hz : items.size = xs.length)
    (at_ : ∀ (i : Nat) (v : Value), items[i]? = some v → ∃ (x : Str) (t : Tok), v = Value.str x t ∧ xs[i]? = some x)
    (fin : ∀ (h2 : Heap) (tk : Nat) (ks : List Str), (∀ x, x ∈ ks ↔ x ∈ xs) → SetsW (PySem.strKind P w) h2 s.heap.objs.size ks → (∀ b o, b < s.heap.objs.size → s.heap.get? b = some o → h2.get? b = some o) → Q (.ref s.heap.objs.size) { s with heap := h2, toks := tk }) :
    wpAny (model P w) A (call (.type "set") [.ref l]) Q E s := by
  refine set_callJ (J := Jw P w s.heap.objs.size xs) hh hl (fun led ok => ⟨[], fun x => by simp, ?_⟩) (fun i h h2 j k => ?_) (fun i v s1 Q E hi pv j q => ?_) fun h2 tk j k => ?_
  · exact ⟨newS led, #[], 0, _, Heap.get?_push_of_some _ (Heap.get?_push_size _ rfl), ⟨rfl, rfl, rfl⟩, rfl, fun _ z => (by cases z), .nil, List.nodup_nil, by decide, by cases led <;> decide, by show List.Pairwise _ []; exact .nil, ok⟩
  · obtain ⟨ks, m, R⟩ := j
    exact ⟨ks, m, R.at fun o e => k _ o (Nat.ne_of_lt (Nat.lt_succ_self _)) e⟩
  · obtain ⟨x, t, rfl, ex⟩ := at_ i v pv
    obtain ⟨ks, m, R⟩ := j
    have len : ks.length ≤ xs.length := by
      obtain ⟨_, _, _, _, R⟩ := R
      exact nodup_le R.nd fun y hy => List.mem_of_mem_take ((m y).mp hy)
    unfold setAdd
    refine wpAny_holding (wpAny_bind ((PySem.strKind P w).pyHash (k := x) (by exact PySem.strKind_is _ _ _ _) ?_))
    refine setW_add (knd := PySem.strKind P w) (s := { s1 with toks := s1.toks + 1 }) (by exact PySem.strKind_is _ _ _ _) rfl R (by omega) fun b h2 js sb R2 mem => ?_
    refine q _ h2 (s1.toks + 1) sb ⟨js, fun y => ?_, R2⟩ (Nat.le_succ _)
    rw [mem, m, take_more ex, List.mem_append, List.mem_singleton]
  · obtain ⟨ks, m, R⟩ := j
    rw [hz, List.take_length] at m
    exact fin h2 tk ks m R k
theorem strs_perm {l l' : List Value} (p : l'.Perm l) : ∀ {ks : List Str}, StrsAre l ks → ∃ ks' : List Str, ks'.Perm ks ∧ StrsAre l' ks' := by
  induction p with
  | nil => intro ks h; exact ⟨ks, .refl _, h⟩
  | cons x _ ih =>
    intro ks h
    cases h with
    | cons y t r =>
      obtain ⟨ks', h1, h2⟩ := ih r
      exact ⟨_ :: ks', h1.cons _, .cons _ _ h2⟩
  | swap x y l =>
    intro ks h
    cases h with
    | cons a t r =>
      cases r with
      | cons b u r2 => exact ⟨_, .swap _ _ _, .cons _ _ (.cons _ _ r2)⟩
  | trans _ _ ih1 ih2 =>
    intro ks h
    obtain ⟨k1, h1, h2⟩ := ih2 h
    obtain ⟨k2, h3, h4⟩ := ih1 h2
    exact ⟨k2, h3.trans h1, h4⟩
theorem keys_strs : ∀ {l : List (Int × Value)} {ks : List Str}, Keys (PySem.strKind P w) l ks → StrsAre (l.map (·.2)) ks
  | _, _, .nil => .nil
  | _, _, .cons (a := e) (b := x) h r => by
    obtain ⟨t, et⟩ := Value.isStrOf_shape (show Value.isStrOf x e.2 = true from h)
    rw [List.map_cons, et]
    exact .cons _ _ (keys_strs r)
theorem sorted_setS {a : Addr} {ks : List Str} {Q : Value → Shared → Prop} (R : SetsW (PySem.strKind P w) s.heap a ks) (hh : A.handled = none) (h64 : ks.length < 64)
    (fin : ∀ (s' : Shared) (p : Addr) (out : Array Value) (c : Nat) (ys : List Str), (∀ b o, s.heap.get? b = some o → s'.heap.get? b = some o) → s'.gens = s.gens → s'.os = s.os → s.heap.objs.size ≤ p → s'.heap.get? p = some (seqObj "list" out c) → StrsAre out.toList ys → ys.Perm ks → Q (.ref p) s') :
    wpAny (model P w) A (call (.builtin "sorted") [.ref a]) Q E s := by
  obtain ⟨o, es, ep, t, R⟩ := R
  refine Calls.call_function_entry kind_sorted plain_sorted entry_sorted (args_sorted1 _) ?_
  unfold Builtin.«sorted»
  refine wpAny_bind (m := checkCount "sorted" 1 1 _) (wpAny_pure ?_)
  refine wpAny_bind (L2.collect_set (A := A.in1) hh ⟨o, R.at_, R.ex.1, R.dat⟩ R.fits R.few R.ris R.led fun s1 vs k1 z1 g1 o1 pm => ?_)
  obtain ⟨ss, ps, S⟩ := strs_perm pm (keys_strs R.keys)
  have vl : vs.length < 64 := by rw [S.length, ps.length_eq]; exact h64
  refine wpAny_bind (wpAny_newList ?_ (by rw [sizeLine_eq]; omega))
  have at1 : (s1.heap.push (seqObj "list" vs.toArray 0)).get? s1.heap.objs.size = some (seqObj "list" vs.toArray 0) := Heap.get?_push_size _ rfl
  refine wpAny_bind (wpAny_holding (wpAny_call_entry slot_list_sort ⟨_, at1, rfl⟩ entry_list_sort (list_sort_treeK strKind_oneLt at1 S.keysOf (fun v₁ v₂ rest e => keyKind_strs (by rw [← e]; exact S)) vl fun st' a1 a2 => ⟨_, rfl, ?_⟩) (args_list_sort _)))
  obtain ⟨ys, b1, b2, _⟩ := sorted_out_str S a1 a2
  obtain ⟨c, hc⟩ := sortedHeap_at (vs := vs) (out := (arrOf st').map (·.2)) at1
  refine wpAny_pure ⟨_, rfl, fin _ s1.heap.objs.size _ c ys (fun b u e => ?_) g1 o1 z1 hc b1 (b2.trans ps)⟩
  have q := k1 b u e
  have lt := Heap.lt_size q
  refine Eq.trans (sortedHeap_old (Nat.ne_of_lt lt) (by rw [size_push']; exact Nat.lt_succ_of_lt lt)) ?_
  exact Heap.get?_push_of_some _ q
end
end DS
namespace DS
open PySem PySem.Spec PyProof.Rows L2
def tSS (K : PySem.W.Frag) (ta : TE) : TE := fun σ H Q => ta σ H fun x H1 => ∃ l, x = .ref l ∧
  ∃ xs : List Str, SqL K H1 l (xs.map V.str) ∧ xs.length < 4000 ∧ ∃ n, n < 64 ∧ (∀ es : List Str, es.Nodup → (∀ x, x ∈ es ↔ x ∈ xs) → es.length ≤ n) ∧ ∀ (ys : List Str) (p : Addr), ys.Nodup → (∀ x, x ∈ ys ↔ x ∈ xs) → H1 p = none → Q (.ref p) (upd H1 p (.lst (ys.map V.str)))
section
variable {X : Cx} {a : Expr} {ta : TE} {p p2 q pos : Pos}
theorem pe_SS (hc : X.calm = true) (hg : Gl X "sorted") (hm : X.mg "sorted" = none) (hg2 : Gl X "set") (hm2 : X.mg "set" = none) (ha : PE X a ta)
    (na : starEach [a] X.env = (false, eval a X.env) :: starEach [] X.env := by rfl) : PE X (.Call (.Name "sorted" p) [.Call (.Name "set" p2) [a] [] q] [] pos) (tSS X.K ta) := by
  refine ⟨fun pins s σ H Q I h => Call_ (ld_blt I hg hm boot_sorted (callWith_builtin1 (args_cons (Call_ (ld_blt I hg2 hm2 boot_set (callWith_type1 (args_cons (thn (ha.run pins s σ H _ I h) fun v s1 ⟨x, H1, I1, r1, q1⟩ => args_nil ?_) na) na rfl))) rfl) rfl rfl))⟩
  obtain ⟨l, rfl, xs, hq, hz, n, hn, few, q1⟩ := q1
  cases r1
  obtain ⟨its, r, pl, hz2⟩ := I1.list hq
  have sa := strsAre_of r
  have ln : its.toArray.size = xs.length := by rw [List.size_toArray, ← r.length, List.length_map]
  refine setW_strs (xs := xs) (I1.ok.hd hc) pl.isList (by unfold scanBound; omega) ln (fun i v hv => strs_at sa i v (by simpa using hv)) fun h2 tk ks mem R k => ?_
  have nd : ks.Nodup := by obtain ⟨_, _, _, _, R⟩ := R; exact R.nd
  have I2 : Inv X pins σ H1 { s1 with heap := h2, toks := tk } := I1.kept fun b o e => k b o (Heap.lt_size e) e
  refine args_nil (sorted_setS R (I2.ok.hd hc) (Nat.lt_of_le_of_lt (few ks nd mem) hn) fun s' p out c ys kp g o hp hg hs pm => ?_)
  have hlen : (ys.map V.str).length ≤ sizeLine := by
    rw [List.length_map, pm.length_eq, sizeLine_eq]
    have := few ks nd mem
    omega
  have hnn : H1 p = none := I2.hok.fresh hp
  obtain ⟨s2, es2⟩ : ∃ s2 : Shared, s2 = { s1 with heap := h2, toks := tk } := ⟨_, rfl⟩
  rw [← es2] at I2 kp g o hp
  have J : Inv X pins σ (upd H1 p (.lst (ys.map V.str))) { s2 with heap := s'.heap, gens := s'.gens, drawn := s'.drawn, toks := s'.toks } :=
    I2.call (ch := []) (Un.laid kp hp hnn) (I2.hok.laid kp hp ⟨hlen, out.toList, c, vals_of_strs hs, hg⟩) (by rw [g]; exact I2.bare) (fun _ z => nomatch z)
  have e : s' = { s2 with heap := s'.heap, gens := s'.gens, drawn := s'.drawn, toks := s'.toks } := by
    cases s'
    cases s2
    cases o
    rfl
  rw [e]
  exact ⟨.ref p, _, J, rfl, q1 ys p (pm.nodup_iff.mpr nd) (fun x => pm.mem_iff.trans (mem x)) hnn⟩
end
/-- sorted(set(x)): some arrangement of what is in x -/
def sortSetQ (d : D) (O : OS) (Q : DQ) : Prop := match d with
  | .lst ds => ∃ xs, strsD ds = some xs ∧ xs.length < 4000 ∧ ∃ n, n < 64 ∧ (∀ es : List (List Nat), es.Nodup → (∀ x, x ∈ es ↔ x ∈ xs) → es.length ≤ n) ∧ ∀ ys : List (List Nat), ys.Nodup → (∀ x, x ∈ ys ↔ x ∈ xs) → Q (.lst (ys.map .str)) O
  | _ => False
def dSortSet (te : DTE) : DTE := fun ρ O Q => te ρ O fun d O1 => sortSetQ (vw O1 d) O1 Q
theorem nodup_map {α β : Type} {f : α → β} (hf : ∀ a b, f a = f b → a = b) {l : List α} (h : l.Nodup) : (l.map f).Nodup := by
  induction l with
  | nil => exact List.nodup_nil
  | cons a l ih =>
    obtain ⟨h1, h2⟩ := List.nodup_cons.mp h
    rw [List.map_cons]
    refine List.nodup_cons.mpr ⟨fun z => ?_, ih h2⟩
    obtain ⟨b, hb, e⟩ := List.mem_map.mp z
    exact h1 (hf _ _ e ▸ hb)
section
variable {X : Cx} {F0 : Bs} {a : Expr} {te : DTE} {p p2 q pos : Pos} {k : Nat}
theorem de_sortSet (hc : X.calm = true) (hg : Gl X "sorted") (hm : X.mg "sorted" = none) (hg2 : Gl X "set") (hm2 : X.mg "set" = none) (ha : DE X F0 a te)
    (na : starEach [a] X.env = (false, eval a X.env) :: starEach [] X.env := by rfl) :
    DE X F0 (.Call (.Name "sorted" p) [.Call (.Name "set" p2) [a] [] q] [] pos) (dSortSet te) := PE.imp (pe_SS hc hg hm hg2 hm2 ha na) fun σ H Q h => by
  obtain ⟨Z, ρ, O, F, Qd, at_, h, cv⟩ := h
  refine ⟨_, ρ, O, F, _, at_, h, fun x O1 F1 H1 vx r1 e1 i1 h1 => ?_⟩
  have iv := r1.view i1
  unfold sortSetQ at h1
  split at h1
  · rename_i ds e
    rw [e] at iv
    obtain ⟨l, vs, rfl, hH, hI, hz⟩ := iv
    obtain ⟨xs, e2, few, n, hn, hle, h1⟩ := h1
    obtain ⟨rfl, hall⟩ := strsD_is e2 hI
    refine ⟨l, rfl, xs.map tx, .inl (.inl hH), by rw [List.length_map]; exact few, n, hn, fun es nd mem => ?_, fun ys p nd mem hp => ?_⟩
    · obtain ⟨n1, m1, l1⟩ := nodup_back (f := tx) cd cd_tx nd mem
      rw [← l1]
      exact hle _ n1 m1
    · obtain ⟨n1, m1, l1⟩ := nodup_back (f := tx) cd cd_tx nd mem
      have mk : ∀ ys : List Str, (∀ y ∈ ys, Sz (cd y).length ∧ Cok (cd y)) → Iss X.K F1 ((ys.map cd).map D.str) (ys.map V.str) := fun ys => by
        induction ys with
        | nil => intro _; exact Iss.nil
        | cons y ys ih =>
          intro h
          obtain ⟨z1, z2⟩ := h y List.mem_cons_self
          refine Iss.cons ?_ (ih fun z hz => h z (List.mem_cons_of_mem _ hz))
          have := Is.mkStr (K := X.K) (F := F1) z1 z2
          rw [tx_cd] at this
          exact this
      have hz2 : Sz (ys.map V.str).length := by
        rw [List.length_map, ← l1]
        have := hle _ n1 m1
        show _ ≤ 16777216
        omega
      exact conv_lst (cv.ext e1) r1 hp (mk ys fun y hy => hall _ ((m1 _).mp (List.mem_map_of_mem hy))) hz2 (h1 _ n1 m1)
  · exact h1.elim
end
end DS

namespace DS
open PySem PySem.Spec
/-! ### list(zip(xs, ys)) -/
section
theorem zip_no_len : typeLookup (.type "zip") "__len__" = pure none := by rw [typeLookup_type, builtinLookup_eq_fast]; kernel_rfl
theorem zip_no_hint : typeLookup (.type "zip") "__length_hint__" = pure none := by rw [typeLookup_type, builtinLookup_eq_fast]; kernel_rfl
variable {prog : Program} {w : World} {A : Around}
/-- the pairs given out so far -/
structure Gave (h : Heap) (lo : Nat) (xs ys : Array Value) (acc : Array Value) (i : Nat) : Prop where
  size : acc.size = i
  nd : acc.toList.Nodup
  at_ : ∀ (j : Nat) (v : Value), acc[j]? = some v → ∃ (T : Addr) (x y : Value), v = Value.ref T ∧ lo ≤ T ∧ xs[j]? = some x ∧ ys[j]? = some y ∧ h.get? T = some { cls := .type "tuple", data := .seq #[x, y] }
theorem Gave.keep {h h' : Heap} {lo : Nat} {xs ys acc : Array Value} {i : Nat} (g : Gave h lo xs ys acc i) (k : ∀ b o, lo ≤ b → h.get? b = some o → h'.get? b = some o) : Gave h' lo xs ys acc i :=
  ⟨g.size, g.nd, fun j v e => let ⟨T, x, y, a, b, c, d, e'⟩ := g.at_ j v e; ⟨T, x, y, a, b, c, d, k _ _ b e'⟩⟩
theorem Gave.push {h : Heap} {lo T : Nat} {xs ys acc : Array Value} {i : Nat} {x y : Value} (g : Gave h lo xs ys acc i) (hT : lo ≤ T) (hx : xs[i]? = some x) (hy : ys[i]? = some y) (e : h.get? T = some { cls := .type "tuple", data := .seq #[x, y] }) (new : Value.ref T ∉ acc.toList) : Gave h lo xs ys (acc.push (Value.ref T)) (i + 1) := by
  refine ⟨by rw [Array.size_push, g.size], ?_, fun j v hj => ?_⟩
  · rw [Array.toList_push]
    exact List.nodup_append.mpr ⟨g.nd, by simp, fun a ha b hb e => new (by rw [← List.mem_singleton.mp hb, ← e]; exact ha)⟩
  · rw [Array.getElem?_push] at hj
    split at hj
    · rename_i q
      rw [g.size] at q
      cases hj
      subst q
      exact ⟨T, x, y, rfl, hT, hx, hy, e⟩
    · exact g.at_ j v hj
theorem Gave.lt {h : Heap} {lo : Nat} {xs ys acc : Array Value} {i : Nat} (g : Gave h lo xs ys acc i) {n : Nat} (hn : h.objs.size ≤ n) : Value.ref n ∉ acc.toList := fun hm => by
  obtain ⟨j, hj, e⟩ := List.mem_iff_getElem.mp hm
  obtain ⟨T, x, y, e1, _, _, _, e2⟩ := g.at_ j _ (by rw [Array.getElem?_eq_getElem (by simpa using hj)])
  have e3 : acc[j]'(by simpa using hj) = Value.ref n := by simpa using e
  rw [e3] at e1
  cases e1
  exact absurd (Heap.lt_size e2) (Nat.not_lt.mpr hn)
structure ZAt (h : Heap) (z TI TO i1 i2 l1 l2 lo : Addr) (xs ys : Array Value) (i : Nat) : Prop where
  ti : IsPair h TI (.ref i1) (.ref i2)
  i1 : h.IsListIter i1 l1 i
  i2 : h.IsListIter i2 l2 i
  l1 : h.IsList l1 xs
  l2 : h.IsList l2 ys
  st : (IsZip h z TI TO .none ∧ ∃ a b, IsPair h TO a b) ∨ ∃ T f oT, IsZipHeld h z TI TO T f ∧ h.get? T = some oT ∧ lo ≤ T
theorem ne_up {a b lo : Addr} (h : lo ≤ b) (l : a < lo) : b ≠ a := fun e => Nat.lt_irrefl _ (Nat.lt_of_lt_of_le l (e ▸ h))
theorem zip_loop {z TI TO i1 i2 l1 l2 S lo : Addr} {xs ys : Array Value} {res : Value} {R : Result → Shared → Prop} (hh : A.handled = none) (D : ZipApart z TI TO i1 i2 l1 l2) (nS : S ≠ z ∧ S ≠ TI ∧ S ≠ TO ∧ S ≠ i1 ∧ S ≠ i2 ∧ S ≠ l1 ∧ S ≠ l2)
    (hlo : z < lo ∧ TI < lo ∧ TO < lo ∧ i1 < lo ∧ i2 < lo ∧ S < lo) (hn : min xs.size ys.size ≤ sizeLine) :
    ∀ (left i : Nat) (s : Shared) (acc : Array Value) (c : Nat), i + left = min xs.size ys.size → lo ≤ s.heap.objs.size → ZAt s.heap z TI TO i1 i2 l1 l2 lo xs ys i → s.heap.get? S = some { cls := .type "list", dict := none, data := .seq acc c, slots := #[] } → Gave s.heap lo xs ys acc i →
      (∀ (h' : Heap) (acc' : Array Value) (c' : Nat), (∀ b o, b ≠ z → b ≠ TO → b ≠ i1 → b ≠ i2 → b ≠ S → s.heap.get? b = some o → h'.get? b = some o) → h'.get? S = some { cls := .type "list", dict := none, data := .seq acc' c', slots := #[] } → Gave h' lo xs ys acc' (min xs.size ys.size) → R (.ok (.ret res)) { s with heap := h' }) →
      codeAny (model prog w) A (.builtin "list.extend.loop" ⟨[.ref S, .ref z, res], []⟩) R s
  | 0, i, s, acc, c, e, hs, Z, hS, g, fin => by
    have e : i = min xs.size ys.size := e
    subst e
    refine codeAny_builtin F.entry_extend_loop ?_
    rw [Around.under_plainId F.plain_extend_loop _]
    show wpAny _ A.in1 (pyNext (.ref z) >>= _) _ _ s
    have hend : xs[min xs.size ys.size]? = none ∨ ys[min xs.size ys.size]? = none := by
      rcases Nat.le_total xs.size ys.size with h | h
      · exact .inl (Array.getElem?_eq_none (by rw [Nat.min_eq_left h]; exact Nat.le_refl _))
      · exact .inr (Array.getElem?_eq_none (by rw [Nat.min_eq_right h]; exact Nat.le_refl _))
    have last : ∀ h' : Heap, (∀ b o, b ≠ z → b ≠ TO → b ≠ i1 → b ≠ i2 → s.heap.get? b = some o → h'.get? b = some o) → R (.ok (.ret res)) { s with heap := h' } := fun h' k =>
      fin h' acc c (fun b o h1 h2 h3 h4 _ e => k b o h1 h2 h3 h4 e) (k _ _ nS.1 nS.2.2.1 nS.2.2.2.1 nS.2.2.2.2.1 hS) (g.keep fun b o hb e => k b o (ne_up hb hlo.1) (ne_up hb hlo.2.2.1) (ne_up hb hlo.2.2.2.1) (ne_up hb hlo.2.2.2.2.1) e)
    refine wpAny_bind ?_
    rcases Z.st with ⟨hz, a, b, hTO⟩ | ⟨T, f, oT, hz, hT, hl⟩
    · exact wpAny_pyNext_zip_end hh D hz Z.ti hTO Z.i1 Z.i2 Z.l1 Z.l2 hend fun h' k => wpAny_pure (last h' k)
    · exact wpAny_pyNext_zip_end_held hh D hz hT Z.ti Z.i1 Z.i2 Z.l1 Z.l2 hend fun h' k => wpAny_pure (last h' fun b o h1 _ h3 h4 e => k b o h1 h3 h4 e)
  | left + 1, i, s, acc, c, e, hs, Z, hS, g, fin => by
    have lt : i < min xs.size ys.size := by omega
    have ix : i < xs.size := Nat.lt_of_lt_of_le lt (Nat.min_le_left ..)
    have iy : i < ys.size := Nat.lt_of_lt_of_le lt (Nat.min_le_right ..)
    have ex := Array.getElem?_eq_getElem ix
    have ey := Array.getElem?_eq_getElem iy
    refine codeAny_builtin F.entry_extend_loop ?_
    rw [Around.under_plainId F.plain_extend_loop _]
    show wpAny _ A.in1 (pyNext (.ref z) >>= _) _ _ s
    have step : ∀ (h' : Heap) (f : Bool), (∀ b o, b ≠ z → b ≠ TO → b ≠ i1 → b ≠ i2 → s.heap.get? b = some o → h'.get? b = some o) → h'.IsListIter i1 l1 (i + 1) → h'.IsListIter i2 l2 (i + 1) → IsPair h' s.heap.objs.size xs[i] ys[i] → h'.objs.size = s.heap.objs.size + 1 →
        (∃ T f oT, IsZipHeld h' z TI TO T f ∧ h'.get? T = some oT ∧ lo ≤ T) → wpAny (model prog w) A.in1 (updateSeq S (·.push (.ref s.heap.objs.size)) >>= fun _ => pure (Fin.again (.builtin "list.extend.loop" ⟨[.ref S, .ref z, res], []⟩)))
          (fun fin s' => match fin with | .done f => R (.ok f) s' | .again c' => c'.quiet = true ∧ codeAny (model prog w) A c' R s') (fun e s' => R (.error e) s') { s with heap := h' } := by
      intro h' f k j1 j2 hp hsz hz'
      have hS' := k _ _ nS.1 nS.2.2.1 nS.2.2.2.1 nS.2.2.2.2.1 hS
      refine wpAny_bind (wpAny_updateSeq hS' rfl (wpAny_pure ⟨plainId_quiet F.plain_extend_loop _, ?_⟩) (by rw [g.size]; omega) (by show (acc.push _).size ≤ sizeLine + 1; rw [Array.size_push, g.size]; omega))
      obtain ⟨e1, he1⟩ : ∃ e1, (h'.update S (Obj.mapSeq (·.push (Value.ref s.heap.objs.size)))).get? S = some { cls := .type "list", dict := none, data := .seq (acc.push (Value.ref s.heap.objs.size)) e1, slots := #[] } := ⟨_, Heap.get?_update_self (Obj.mapSeq (·.push (Value.ref s.heap.objs.size))) hS' rfl⟩
      have oth : ∀ b o, b ≠ S → h'.get? b = some o → (h'.update S (Obj.mapSeq (·.push (.ref s.heap.objs.size)))).get? b = some o := fun b o hb e => (Heap.get?_update_other _ _ (Ne.symm hb)).trans e
      have g2 : Gave (h'.update S (Obj.mapSeq (·.push (Value.ref s.heap.objs.size)))) lo xs ys (acc.push (Value.ref s.heap.objs.size)) (i + 1) := by
        refine Gave.push (g.keep fun b o hb e => oth b o (ne_up hb hlo.2.2.2.2.2) (k b o (ne_up hb hlo.1) (ne_up hb hlo.2.2.1) (ne_up hb hlo.2.2.2.1) (ne_up hb hlo.2.2.2.2.1) e)) hs ex ey (oth _ _ (ne_up hs hlo.2.2.2.2.2) hp) (g.lt (Nat.le_refl _))
      refine zip_loop hh D nS hlo hn left (i + 1) { s with heap := h'.update S (Obj.mapSeq (·.push (.ref s.heap.objs.size))) } _ e1 (by omega) (by show lo ≤ (h'.update S _).objs.size; rw [Heap.size_update, hsz]; exact Nat.le_succ_of_le hs) ?_ ?_ g2 fun h2 acc' c' k2 e2 g3 => fin h2 acc' c' (fun b o h1 h2 h3 h4 h5 e => k2 b o h1 h2 h3 h4 h5 (oth b o h5 (k b o h1 h2 h3 h4 e))) e2 g3
      · refine ⟨oth _ _ (Ne.symm nS.2.1) (k _ _ D.TIz D.TITO D.TIi1 D.TIi2 Z.ti), j1.at fun o e => oth _ o (Ne.symm nS.2.2.2.1) e, j2.at fun o e => oth _ o (Ne.symm nS.2.2.2.2.1) e, Z.l1.at fun o e => oth _ o (Ne.symm nS.2.2.2.2.2.1) (k _ o D.l1z D.l1TO D.l1i1 D.l1i2 e), Z.l2.at fun o e => oth _ o (Ne.symm nS.2.2.2.2.2.2) (k _ o D.l2z D.l2TO D.l2i1 D.l2i2 e), .inr ?_⟩
        obtain ⟨T, f, oT, a1, a2, a3⟩ := hz'
        exact ⟨T, f, oT, oth _ _ (Ne.symm nS.1) a1, oth _ _ (ne_up a3 hlo.2.2.2.2.2) a2, a3⟩
      · exact he1
    refine wpAny_bind ?_
    rcases Z.st with ⟨hz, a, b, hTO⟩ | ⟨T, f, oT, hz, hT, hl⟩
    · refine wpAny_pyNext_zip_item D hz Z.ti hTO Z.i1 Z.i2 Z.l1 Z.l2 ex ey fun h' a1 _ a3 a4 a5 a6 k => ?_
      exact step h' false k a3 a4 a5 a6 ⟨_, false, _, a1, a5, hs⟩
    · refine wpAny_pyNext_zip_item_held D hz hT Z.ti Z.i1 Z.i2 Z.l1 Z.l2 ex ey fun h' a1 a3 a4 a5 a6 k => ?_
      exact step h' true (fun b o h1 _ h3 h4 e => k b o h1 h3 h4 e) a3 a4 a5 a6 ⟨T, true, oT, a1, k _ _ (ne_up hl hlo.1) (ne_up hl hlo.2.2.2.1) (ne_up hl hlo.2.2.2.2.1) hT, hl⟩

variable {E : Value → Shared → Prop} {s : Shared}
theorem list_zip {z TI TO i1 i2 l1 l2 : Addr} {xs ys : Array Value} {a b : Value} {Q : Value → Shared → Prop} (hh : A.handled = none) (D : ZipApart z TI TO i1 i2 l1 l2) (hz : IsZip s.heap z TI TO .none) (hTI : IsPair s.heap TI (.ref i1) (.ref i2)) (hTO : IsPair s.heap TO a b)
    (h1 : s.heap.IsListIter i1 l1 0) (h2 : s.heap.IsListIter i2 l2 0) (hl1 : s.heap.IsList l1 xs) (hl2 : s.heap.IsList l2 ys) (hn : min xs.size ys.size ≤ sizeLine)
    (fin : ∀ (h' : Heap) (acc : Array Value) (c : Nat), (∀ b o, b ≠ z → b ≠ TO → b ≠ i1 → b ≠ i2 → s.heap.get? b = some o → h'.get? b = some o) → h'.get? s.heap.objs.size = some { cls := .type "list", dict := none, data := .seq acc c, slots := #[] } → Gave h' (s.heap.objs.size + 1) xs ys acc (min xs.size ys.size) → Q (.ref s.heap.objs.size) { s with heap := h' }) :
    wpAny (model prog w) A (call (.type "list") [.ref z]) Q E s := by
  have hSz : s.heap.objs.size ≠ z := Nat.ne_of_gt (Heap.lt_size hz)
  refine callType_codes (Q₁ := fun obj s₁ => obj = .ref s.heap.objs.size ∧ s₁ = { s with heap := s.heap.push { cls := .type "list", data := .seq #[] } }) F.called_list (F.typeCall_list_1 _) F.entry_list_init
    (code_list_new _ ⟨rfl, rfl⟩) fun obj s₁ h₁ => ?_
  obtain ⟨rfl, rfl⟩ := h₁
  have hS : (s.heap.push { cls := .type "list", data := .seq #[] }).get? s.heap.objs.size = some { cls := .type "list", data := .seq #[] } := Heap.get?_push_size _ rfl
  refine ⟨⟨_, hS, rfl⟩, F.args_list_init_2 _ _, ?_⟩
  show wpAny _ A.in1.in1 (do let old ← Builtin.List.listItems (.ref s.heap.objs.size); Builtin.List.listUpdate (.ref s.heap.objs.size) (fun _ => #[]); letGo old.toList.reverse; Builtin.List.listExtendWith (.ref s.heap.objs.size) (.ref z) .none) _ _ _
  refine wpAny_bind ?_
  unfold Builtin.List.listItems
  refine wpAny_bind (wpAny_seqItems hS rfl (wpAny_pure ?_))
  show wpAny _ A.in1.in1 (updateSeq s.heap.objs.size (fun _ => #[]) >>= fun _ => letGo (#[] : Array Value).toList.reverse >>= fun _ => Builtin.List.listExtendWith (.ref s.heap.objs.size) (.ref z) .none) _ _ _
  refine wpAny_bind (wpAny_updateSeq hS rfl ?_)
  have hS2 := Heap.get?_update_self (Obj.mapSeq (fun _ => (#[] : Array Value))) hS rfl
  refine wpAny_bind (wpAny_letGo ?_)
  have up : ∀ (h : Heap) (f : Obj → Obj), (∀ b o, s.heap.get? b = some o → h.get? b = some o) → ∀ b o, s.heap.get? b = some o → (h.update s.heap.objs.size f).get? b = some o := fun h f q b o e =>
    (Heap.get?_update_other _ _ (Ne.symm (Nat.ne_of_lt (Heap.lt_size e)))).trans (q b o e)
  have k1 : ∀ b o, s.heap.get? b = some o → (s.heap.push { cls := .type "list", data := .seq #[] }).get? b = some o := fun b o e => Heap.get?_push_of_some _ e
  have k2 := up _ (Obj.mapSeq (fun _ => (#[] : Array Value))) k1
  unfold Builtin.List.listExtendWith
  have ty : ∀ {h : Heap}, (∀ b o, s.heap.get? b = some o → h.get? b = some o) → Shared.TypeIs { s with heap := h } (.ref z) "zip" := fun q => ⟨_, q _ _ hz, rfl⟩
  refine wpAny_bind (wpAny_typeOf (ty k2) ?_)
  have e1 : Builtin.List.listSameRef (.ref s.heap.objs.size) (.ref z) = false := by simp [Builtin.List.listSameRef, hSz]
  have e2 : (Value.type "zip" == Value.type "list") = false := by decide
  have e3 : (Value.type "zip" == Value.type "tuple") = false := by decide
  simp only [e1, e2, e3, Bool.or_false, Bool.false_eq_true, if_false]
  refine wpAny_bind (wpAny_pyIter_zip (s := { s with heap := _ }) (k2 _ _ hz) ?_)
  refine wpAny_bind (wpAny_holding ?_)
  unfold Builtin.List.listLengthHint
  refine wpAny_bind (wpAny_specialOf (ty k2) zip_no_len ?_)
  show wpAny _ A.in1.in1 (specialOf (Value.ref z) (Str.ofString "__length_hint__") >>= _) _ _ _
  refine wpAny_bind (wpAny_specialOf (ty k2) zip_no_hint ?_)
  refine wpAny_pure ?_
  show wpAny _ A.in1.in1 (rule "list.extend.makes-room" >>= fun _ => Builtin.List.listTouch (.ref s.heap.objs.size) >>= fun _ =>
    again (.builtin "list.extend.loop" ⟨[.ref s.heap.objs.size, .ref z, .none], []⟩)) _ _ _
  refine wpAny_bind (wpAny_rule ?_)
  refine wpAny_bind ?_
  show wpAny _ A.in1.in1 (updateSeq s.heap.objs.size (·.push .none) >>= fun _ => updateSeq s.heap.objs.size (·.pop)) _ _ _
  refine wpAny_bind (wpAny_updateSeq hS2 rfl ?_)
  have hS3 := Heap.get?_update_self (Obj.mapSeq (·.push Value.none)) hS2 rfl
  refine wpAny_updateSeq (hz := by seq_fits) hS3 rfl ?_
  have hS4 := Heap.get?_update_self (Obj.mapSeq (·.pop)) hS3 rfl
  have k4 := up _ (Obj.mapSeq (·.pop)) (up _ (Obj.mapSeq (·.push Value.none)) k2)
  refine wpAny_pure ⟨plainId_quiet F.plain_extend_loop _, ?_⟩
  have lt : ∀ {c o}, s.heap.get? c = some o → c < s.heap.objs.size := fun e => Heap.lt_size e
  have n1 : i1 < s.heap.objs.size := let ⟨_, e, _⟩ := h1; lt e
  have n2 : i2 < s.heap.objs.size := let ⟨_, e, _⟩ := h2; lt e
  have n3 : l1 < s.heap.objs.size := let ⟨_, e, _⟩ := hl1; lt e
  have n4 : l2 < s.heap.objs.size := let ⟨_, e, _⟩ := hl2; lt e
  refine zip_loop (A := A.in1) (lo := s.heap.objs.size + 1) hh D ⟨hSz, Nat.ne_of_gt (lt hTI), Nat.ne_of_gt (lt hTO), Nat.ne_of_gt n1, Nat.ne_of_gt n2, Nat.ne_of_gt n3, Nat.ne_of_gt n4⟩
    ⟨Nat.lt_succ_of_lt (lt hz), Nat.lt_succ_of_lt (lt hTI), Nat.lt_succ_of_lt (lt hTO), Nat.lt_succ_of_lt n1, Nat.lt_succ_of_lt n2, Nat.lt_succ_self _⟩ hn _ 0 _ #[] _ (Nat.zero_add _) ?_
    ⟨k4 _ _ hTI, h1.at fun o e => k4 _ o e, h2.at fun o e => k4 _ o e, hl1.at fun o e => k4 _ o e, hl2.at fun o e => k4 _ o e, .inl ⟨k4 _ _ hz, a, b, k4 _ _ hTO⟩⟩ hS4 ⟨rfl, List.nodup_nil, fun j v e => by simp at e⟩ fun h' acc c k e g => ?_
  · show s.heap.objs.size + 1 ≤ _
    rw [Heap.size_update, Heap.size_update, Heap.size_update, Heap.size_push]
    exact Nat.le_refl _
  · exact ⟨rfl, fin h' acc c (fun b o q1 q2 q3 q4 eb => k b o q1 q2 q3 q4 (Nat.ne_of_lt (lt eb)) (k4 b o eb)) e g⟩
end
end DS

namespace DS
open PySem PySem.Spec PyProof.Rows L2
/-! ### many new objects at once -/
theorem Un.grown {fs : List Addr} {H H' : Hp} {h h' : Heap} {n : Nat} (k : ∀ b o, h.get? b = some o → h'.get? b = some o) (hn : h.objs.size ≤ n) (old : ∀ b, b < n → H' b = H b) (tr : ∀ b u, H b = some u → b < n) : Un fs [] H H' h h' where
  keep := fun b u q _ _ _ => k b u q
  slot := fun b u q _ _ _ => ⟨u.slots, k b u q⟩
  free := fun b u q m _ => by rw [old b (Nat.lt_of_lt_of_le (Heap.lt_size q) hn)]; exact m
  there := fun b u q _ => ⟨u, k b u q⟩
  tups := fun b xs q => by rw [old b (tr b _ q)]; exact q
  frzs := fun b u xs q => by rw [old b (tr b _ q)]; exact q
  tbls := fun b ps q => ⟨#[], by rw [old b (tr b _ q), q]; simp⟩
theorem Rep.grown {K : PySem.W.Frag} {Z F H H' : Hp} {O : OS} {n : Nat} (r : Rep K Z F H O) (tr : ∀ b u, H b = some u → b < n) (old : ∀ b, b < n → H' b = H b) :
    Rep K Z (fun b => if b < n then F b else H' b) H' O ∧ Ext F (fun b => if b < n then F b else H' b) := by
  have ex : Ext F (fun b => if b < n then F b else H' b) := fun b o e => by
    show (if b < n then F b else H' b) = some o
    rw [if_pos (tr b o (r.sub b o e))]; exact e
  refine ⟨⟨fun b o e => ?_, fun b o e => ?_, fun b d e => ?_⟩, ex⟩
  · have e : (if b < n then F b else H' b) = some o := e
    by_cases c : b < n
    · rw [if_pos c] at e; rw [old b c]; exact r.sub b o e
    · rw [if_neg c] at e; exact e
  · obtain ⟨h1, h2, h3⟩ := r.hid b o e
    have c := tr b o h1
    refine ⟨by rw [old b c]; exact h1, ?_, h3⟩
    show (if b < n then F b else H' b) = none
    rw [if_pos c]; exact h2
  · obtain ⟨h1, o, h2, w⟩ := r.own b d e
    have c := tr b o h2
    refine ⟨?_, o, by rw [old b c]; exact h2, w.ext ex⟩
    show (if b < n then F b else H' b) = none
    rw [if_pos c]; exact h1
theorem refs_of : ∀ l : List Value, (∀ v ∈ l, ∃ T, v = Value.ref T) → ∃ Ts : List Nat, l = Ts.map Value.ref
  | [], _ => ⟨[], rfl⟩
  | v :: l, h => by
    obtain ⟨T, rfl⟩ := h v List.mem_cons_self
    obtain ⟨Ts, e⟩ := refs_of l fun u hu => h u (List.mem_cons_of_mem _ hu)
    exact ⟨T :: Ts, by rw [e]; rfl⟩
theorem nodup_of_map {α β : Type} {f : α → β} : ∀ {l : List α}, (l.map f).Nodup → l.Nodup
  | [], _ => List.nodup_nil
  | a :: l, h => by
    rw [List.map_cons, List.nodup_cons] at h
    exact List.nodup_cons.mpr ⟨fun z => h.1 (List.mem_map_of_mem z), nodup_of_map h.2⟩
theorem vals_back : ∀ {vs : List V} {us : List Value} {j : Nat} {u : Value}, Vals vs us → us[j]? = some u → ∃ v, vs[j]? = some v ∧ RelV v u
  | _, _, _, _, .nil, e => by simp at e
  | _, _, 0, _, .cons a _, e => by simp at e; subst e; exact ⟨_, rfl, a⟩
  | _, _, j + 1, _, .cons _ b, e => by
    obtain ⟨v, h1, h2⟩ := vals_back (j := j) b (by simpa using e)
    exact ⟨v, by simpa using h1, h2⟩
theorem idx_nodup : ∀ {Ts : List Nat} {j T : Nat}, Ts.Nodup → Ts[j]? = some T → Ts.idxOf T = j
  | [], j, T, _, e => by simp at e
  | t :: Ts, 0, T, _, e => by
    have : t = T := by simpa using e
    subst this
    rw [List.idxOf_cons]; simp
  | t :: Ts, j + 1, T, n, e => by
    have e' : Ts[j]? = some T := by simpa using e
    obtain ⟨n1, n2⟩ := List.nodup_cons.mp n
    have ne : t ≠ T := fun z => n1 (z ▸ List.mem_of_getElem? e')
    have := idx_nodup n2 e'
    rw [List.idxOf_cons, show (t == T) = false from beq_eq_false_iff_ne.mpr ne, this]
    rfl
def tLZ (K : PySem.W.Frag) (ta : TA) : TE := fun σ H Q => ta σ H fun vs H1 => ∃ a b xs ys, vs = [.ref a, .ref b] ∧ SqL K H1 a xs ∧ SqL K H1 b ys ∧ min xs.length ys.length ≤ sizeLine ∧
  ∀ (n L : Nat) (Ts : List Nat) (H2 : Hp), (∀ b u, H1 b = some u → b < n) → (∀ b, b < n → H2 b = H1 b) → n ≤ L → H2 L = some (.lst (Ts.map V.ref)) → Ts.length = min xs.length ys.length →
    (∀ (j T : Nat) x y, Ts[j]? = some T → xs[j]? = some x → ys[j]? = some y → n ≤ T ∧ H2 T = some (.tup [x, y])) → Q (.ref L) H2
section
variable {X : Cx} {ta : TA} {a b : Expr} {p p2 q pos : Pos}
theorem pe_LZ (hc : X.calm = true) (hg : Gl X "list") (hm : X.mg "list" = none) (hg2 : Gl X "zip") (hm2 : X.mg "zip" = none) (ha : PA X [a, b] ta) (hs : starEach [a, b] X.env = (false, eval a X.env) :: starEach [b] X.env := by rfl) (hpl : (backTo q (starEach [b] X.env)).any (·.1) = false := by rfl)
    (na : starEach [.Call (.Name "zip" p2) [a, b] [] q] X.env = (false, eval (.Call (.Name "zip" p2) [a, b] [] q) X.env) :: starEach [] X.env := by rfl) :
    PE X (.Call (.Name "list" p) [.Call (.Name "zip" p2) [a, b] [] q] [] pos) (tLZ X.K ta) := by
  refine ⟨fun pins s σ H Q I h => ?_⟩
  refine Call_ (ld_blt I hg hm boot_list (callWith_type1 (args_cons (Call_ (ld_blt I hg2 hm2 boot_zip (callWith_type1 (thn (ha.run q pins s σ H _ I h) fun us s1 ⟨vs, H1, I1, r1, q1⟩ => ?_) hs hpl))) na) na rfl))
  obtain ⟨a, b, xs, ys, rfl, hqx, hqy, hz, q1⟩ := q1
  cases r1 with
  | cons r rr =>
    cases rr with
    | cons r' rr =>
      cases rr
      cases r
      cases r'
      obtain ⟨its, rv, p1, _⟩ := I1.list hqx
      obtain ⟨its2, rv2, p2, _⟩ := I1.list hqy
      have la : a < s1.heap.objs.size := p1.lt
      have lb : b < s1.heap.objs.size := p2.lt
      refine call_zip_2 p1.isList p2.isList fun h1 hz1 hTI hTO hi1 hi2 hsz hk => ?_
      have k1 : (s1.heap.objs.size : Nat) ≤ s1.heap.objs.size + 4 := Nat.le_add_right _ _
      refine args_nil (list_zip (s := { s1 with heap := h1 }) (I1.ok.hd hc) (PySem.W.ktu_apart s1.heap.objs.size a b la lb) hz1 hTI hTO hi1 hi2 (p1.isList.at fun o e => hk _ o e) (p2.isList.at fun o e => hk _ o e) ?_ fun h2 acc c kp e2 g => ?_)
      · simp only [List.size_toArray, ← rv.length, ← rv2.length]
        exact hz
      · have kp' : ∀ b o, s1.heap.get? b = some o → h2.get? b = some o := fun b o e => by
          have l := Heap.lt_size e
          exact kp b o (by show b ≠ s1.heap.objs.size + 4; exact Nat.ne_of_lt (Nat.lt_of_lt_of_le l (Nat.le_add_right _ _))) (Nat.ne_of_lt (Nat.lt_of_lt_of_le l (Nat.le_add_right _ _))) (Nat.ne_of_lt l) (Nat.ne_of_lt (Nat.lt_succ_of_lt l)) (hk b o e)
        have tr : ∀ b u, H1 b = some u → b < s1.heap.objs.size := fun b u e => (I1.hok b u e).lt
        obtain ⟨n, hn⟩ : ∃ n, n = s1.heap.objs.size := ⟨_, rfl⟩
        obtain ⟨L, hL⟩ : ∃ L, L = h1.objs.size := ⟨_, rfl⟩
        have nL : n < L := by rw [hL, hn, hsz]; exact Nat.lt_add_of_pos_right (by decide)
        have e2 : h2.get? L = some { cls := .type "list", dict := none, data := .seq acc c, slots := #[] } := by rw [hL]; exact e2
        have g : Gave h2 (L + 1) its.toArray its2.toArray acc (min its.toArray.size its2.toArray.size) := by rw [hL]; exact g
        obtain ⟨Ts, hTs⟩ := refs_of acc.toList fun v hv => by
          obtain ⟨j, hj, e⟩ := List.mem_iff_getElem.mp hv
          obtain ⟨T, _, _, e1, _⟩ := g.at_ j v (by rw [Array.getElem?_eq_getElem (by simpa using hj)]; simpa using e)
          exact ⟨T, e1⟩
        have hacc : acc = (Ts.map Value.ref).toArray := by rw [← hTs]
        have ndT : Ts.Nodup := by
          have := g.nd
          rw [hTs] at this
          exact nodup_of_map this
        have lenT : Ts.length = min its.length its2.length := by
          have := g.size
          rw [hacc] at this
          simpa using this
        have atT : ∀ j T, Ts[j]? = some T → ∃ x y, L + 1 ≤ T ∧ its[j]? = some x ∧ its2[j]? = some y ∧ h2.get? T = some { cls := .type "tuple", data := .seq #[x, y] } := fun j T e => by
          obtain ⟨T', x, y, e1, e2, e3, e4, e5⟩ := g.at_ j (.ref T) (by rw [hacc]; simpa using e)
          cases e1
          exact ⟨x, y, e2, by simpa using e3, by simpa using e4, e5⟩
        have lx := rv.length
        have ly := rv2.length
        obtain ⟨H2, hH2⟩ : ∃ H2 : Hp, H2 = fun b => if b < n then H1 b else if b = L then some (.lst (Ts.map V.ref)) else if b ∈ Ts then some (.tup [xs.getD (Ts.idxOf b) .non, ys.getD (Ts.idxOf b) .non]) else none := ⟨_, rfl⟩
        have old : ∀ b, b < n → H2 b = H1 b := fun b hb => by rw [hH2]; exact if_pos hb
        have atL : H2 L = some (.lst (Ts.map V.ref)) := by rw [hH2]; exact (if_neg (Nat.not_lt.mpr (Nat.le_of_lt nL))).trans (if_pos rfl)
        have atP : ∀ (j T : Nat) x y, Ts[j]? = some T → xs[j]? = some x → ys[j]? = some y → n ≤ T ∧ H2 T = some (.tup [x, y]) := fun j T x y e ex ey => by
          obtain ⟨_, _, hT, _⟩ := atT j T e
          have gT : L < T := hT
          have hj := (List.getElem?_eq_some_iff.mp e).1
          have ei : Ts.idxOf T = j := idx_nodup ndT e
          refine ⟨Nat.le_of_lt (Nat.lt_trans nL gT), ?_⟩
          rw [hH2]
          refine (if_neg (Nat.not_lt.mpr (Nat.le_of_lt (Nat.lt_trans nL gT)))).trans ((if_neg (Nat.ne_of_gt gT)).trans ((if_pos (List.mem_of_getElem? e)).trans ?_))
          rw [ei, List.getD_eq_getElem?_getD, List.getD_eq_getElem?_getD, ex, ey]
          rfl
        have hok : HOk X.prog X.w H2 h2 := fun b u q => by
          rw [hH2] at q
          have q : (if b < n then H1 b else if b = L then some (.lst (Ts.map V.ref)) else if b ∈ Ts then some (.tup [xs.getD (Ts.idxOf b) .non, ys.getD (Ts.idxOf b) .non]) else none) = some u := q
          split at q
          · refine (I1.hok b u q).stay (fun c v _ e => kp' c v e) (fun c e => ?_) (fun c zs e => ?_)
            · rw [old c (by rw [hn]; exact tr c _ e)]; exact e
            · rw [old c (by rw [hn]; exact tr c _ e)]; exact e
          · split at q
            · rename_i eb
              cases q
              subst eb
              refine ⟨by rw [List.length_map, lenT, ← lx, ← ly]; exact hz, Ts.map Value.ref, c, ?_, by rw [← hacc]; exact e2⟩
              clear hTs hacc ndT lenT atT old atL atP hH2 q
              induction Ts with
              | nil => exact .nil
              | cons t Ts ih => exact .cons rfl ih
            · split at q
              · rename_i hm
                cases q
                obtain ⟨j, hj, ej⟩ := List.mem_iff_getElem.mp hm
                have ei : Ts.idxOf b = j := idx_nodup ndT (by rw [List.getElem?_eq_getElem hj, ej])
                obtain ⟨x, y, _, h3, h4, h5⟩ := atT j b (by rw [List.getElem?_eq_getElem hj, ej])
                obtain ⟨vx, hvx, rx⟩ := vals_back rv h3
                obtain ⟨vy, hvy, ry⟩ := vals_back rv2 h4
                rw [ei, List.getD_eq_getElem?_getD, List.getD_eq_getElem?_getD, hvx, hvy]
                exact ⟨by show 2 ≤ sizeLine; decide, [x, y], .cons rx (.cons ry .nil), _, h5, rfl, _, rfl⟩
              · cases q
        have J : Inv X pins σ H2 { s1 with heap := h2, gens := s1.gens, drawn := s1.drawn, toks := s1.toks } :=
          I1.call (ch := []) (Un.grown kp' (Nat.le_of_eq hn.symm) old fun b u e => by rw [hn]; exact tr b u e) hok I1.bare (fun _ z => nomatch z)
        rw [← hL]
        exact ⟨.ref L, H2, J, rfl, q1 n L Ts H2 (fun b u e => by rw [hn]; exact tr b u e) old (Nat.le_of_lt nL) atL (by rw [lenT, ← lx, ← ly]) atP⟩

theorem iss_zip {K : PySem.W.Frag} {F G : Hp} : ∀ {xs ys : List D} {vx vy : List V} {Ts : List Nat}, Iss K F xs vx → Iss K F ys vy → Ext F G → Ts.length = min vx.length vy.length → (∀ (j T : Nat) x y, Ts[j]? = some T → vx[j]? = some x → vy[j]? = some y → G T = some (.tup [x, y])) → Iss K G (zipD xs ys) (Ts.map V.ref)
  | [], _, vx, vy, Ts, hx, hy, e, hl, h => by
    simp only [Iss] at hx
    subst hx
    have : Ts = [] := List.eq_nil_of_length_eq_zero (by simpa using hl)
    subst this
    exact Iss.nil
  | _ :: _, [], vx, vy, Ts, hx, hy, e, hl, h => by
    simp only [Iss] at hy
    subst hy
    have : Ts = [] := List.eq_nil_of_length_eq_zero (by simpa using hl)
    subst this
    exact Iss.nil
  | x :: xs, y :: ys, vx, vy, Ts, hx, hy, e, hl, h => by
    simp only [Iss] at hx hy
    obtain ⟨v, r, rfl, h1, h2⟩ := hx
    obtain ⟨u, t, rfl, h3, h4⟩ := hy
    cases Ts with
    | nil => simp at hl
    | cons T Ts =>
      refine Iss.cons (Is.mkTup (h 0 T v u rfl rfl rfl) (Iss.cons (h1.ext e) (Iss.cons (h3.ext e) Iss.nil)) (by show 2 ≤ sizeLine; decide)) (iss_zip h2 h4 e (by simpa using hl) fun j T' a b e1 e2 e3 => h (j + 1) T' a b (by simpa using e1) (by simpa using e2) (by simpa using e3))
def lzQ (ds : List D) (O : OS) (Q : DQ) : Prop := match ds with
  | [.lst xs, .lst ys] => Sz (min xs.length ys.length) ∧ Q (.lst (zipD xs ys)) O
  | _ => False
def dLZ (t : DTA) : DTE := fun ρ O Q => t ρ O fun ds O1 => lzQ (ds.map (vw O1)) O1 Q
theorem de_listZip {F0 : Bs} {td : DTA} (hc : X.calm = true) (hg : Gl X "list") (hm : X.mg "list" = none) (hg2 : Gl X "zip") (hm2 : X.mg "zip" = none) (ha : DA X F0 [a, b] td) (hs : starEach [a, b] X.env = (false, eval a X.env) :: starEach [b] X.env := by rfl) (hpl : (backTo q (starEach [b] X.env)).any (·.1) = false := by rfl)
    (na : starEach [.Call (.Name "zip" p2) [a, b] [] q] X.env = (false, eval (.Call (.Name "zip" p2) [a, b] [] q) X.env) :: starEach [] X.env := by rfl) :
    DE X F0 (.Call (.Name "list" p) [.Call (.Name "zip" p2) [a, b] [] q] [] pos) (dLZ td) := PE.imp (pe_LZ hc hg hm hg2 hm2 ha hs hpl na) fun σ H Q h => by
  obtain ⟨Z, ρ, O, F, Qd, at_, h, cv⟩ := h
  refine ⟨_, ρ, O, F, _, at_, h, fun ds O1 F1 H1 vs r1 e1 i1 h1 => ?_⟩
  unfold lzQ at h1
  split at h1
  · rename_i xs ys eds
    cases ds with
    | nil => exact absurd (congrArg List.length eds) (by simp)
    | cons d1 ds =>
      cases ds with
      | nil => exact absurd (congrArg List.length eds) (by simp)
      | cons d2 ds =>
        cases ds with
        | cons _ _ => exact absurd (congrArg List.length eds) (by simp)
        | nil =>
          simp only [List.map_cons, List.map_nil, List.cons.injEq, and_true] at eds
          simp only [Iss] at i1
          obtain ⟨v1, _, rfl, j1, v2, _, rfl, j2, rfl⟩ := i1
          have w1 := r1.view j1
          have w2 := r1.view j2
          rw [eds.1] at w1
          rw [eds.2] at w2
          obtain ⟨a, vx, rfl, ha1, ix, zx⟩ := w1
          obtain ⟨b, vy, rfl, hb1, iy, zy⟩ := w2
          refine ⟨a, b, vx, vy, rfl, .of ha1, .of hb1, by rw [← ix.len, ← iy.len]; exact h1.1, fun n L Ts H2 tr old hL atL lenT atP => ?_⟩
          obtain ⟨r2, e2⟩ := r1.grown tr old
          have is : Iss X.K (fun b => if b < n then F1 b else H2 b) (zipD xs ys) (Ts.map V.ref) := iss_zip ix iy e2 lenT fun j T x y e3 e4 e5 => by
            obtain ⟨h1, h2⟩ := atP j T x y e3 e4 e5
            exact (if_neg (Nat.not_lt.mpr h1)).trans h2
          exact cv _ _ _ _ _ r2 (e1.trans e2) (Is.mkLst ((if_neg (Nat.not_lt.mpr hL)).trans atL) is (by rw [List.length_map, lenT, ← ix.len, ← iy.len]; exact h1.1)) h1.2
  · exact h1.elim
theorem w_lz {td : DTA} {ρ : Env'} {O : OS} {Q : DQ} (q : td ρ O fun ds O1 => lzQ (ds.map (vw O1)) O1 Q) : dLZ td ρ O Q := q
end
end DS

namespace DS
open PySem PySem.Spec PyProof.Rows L2
section
variable {te : DTE} {td : DTA} {ρ : Env'} {O : OS} {Q : DQ} {ds xs ys : List D} {bs R : List (List Nat)}
theorem w_sset (q : te ρ O fun d O1 => Vw O1 d fun d' => sortSetQ d' O1 Q) : dSortSet te ρ O Q := q
theorem w_ssetS (h : strsD ds = some bs) (few : bs.length < 4000) (hR : R.length < 64) (hm : ∀ x ∈ bs, x ∈ R) (q : ∀ ys : List (List Nat), ys.Nodup → (∀ x, x ∈ ys ↔ x ∈ bs) → Q (.lst (ys.map .str)) O) : sortSetQ (.lst ds) O Q :=
  ⟨bs, h, few, R.length, hR, fun es nd m => nodup_sub nd fun a ha => hm a ((m a).mp ha), q⟩
theorem w_lz2 (q : td ρ O fun ds O1 => Vws O1 ds fun ds' => lzQ ds' O1 Q) : dLZ td ρ O Q := q
end
end DS


namespace K03
open PySem PySem.Spec PyProof.Rows L2 DS
local macro_rules | `(tactic| walk_at "s") => `(tactic| first
  | with_reducible refine w_isNN ?_
  | with_reducible refine w_notNN ?_
  | with_reducible refine w_vp ?_
  | with_reducible refine w_atP0 ?_
  | with_reducible refine w_atP1 ?_
  | with_reducible refine w_isNP ?_
  | with_reducible refine w_notNP ?_
  | with_reducible refine w_itP ?_
  | with_reducible refine w_gtpP ?_
  | with_reducible refine w_seq ?_
  | with_reducible refine w_lc ?_
  | with_reducible refine w_next ?_
  | with_reducible refine w_drop ?_
  | with_reducible refine w_ret ?_
  | with_reducible refine w_retN ?_
  | with_reducible refine w_if ?_
  | with_reducible refine w_asg ?_
  | with_reducible refine w_set ?_
  | with_reducible refine w_par ?_
  | with_reducible refine w_two ?_
  | with_reducible refine w_gnm ?_
  | with_reducible refine w_raise ?_
  | with_reducible refine w_break ?_
  | with_reducible refine w_cont ?_
  | with_reducible refine w_c ?_
  | with_reducible refine w_op ?_
  | with_reducible refine w_un ?_
  | with_reducible refine w_b ?_
  | with_reducible refine w_m ?_
  | with_reducible refine w_nil ?_
  | with_reducible refine w_cons ?_
  | with_reducible refine w_val ?_
  | with_reducible refine w_asB ?_
  | with_reducible refine w_and ?_
  | with_reducible refine w_or ?_
  | with_reducible refine w_not ?_
  | with_reducible refine w_andV ?_
  | with_reducible refine w_orV ?_
  | with_reducible refine w_notE ?_
  | with_reducible refine w_notV ?_
  | with_reducible refine w_ifE ?_
  | with_reducible refine w_ift ?_
  | with_reducible refine w_iff ?_
  | with_reducible refine w_tup ?_
  | with_reducible refine w_lst ?_
  | with_reducible refine w_lstM ?_
  | with_reducible refine w_sl ?_
  | with_reducible refine w_on ?_
  | with_reducible refine w_os ?_
  | with_reducible refine w_slS ?_
  | with_reducible refine w_slT ?_
  | with_reducible refine w_slL ?_
  | with_reducible refine w_call ?_
  | with_reducible refine w_frz ?_
  | with_reducible refine w_addI ?_
  | with_reducible refine w_sub ?_
  | with_reducible refine w_inc ?_
  | with_reducible refine w_neg ?_
  | with_reducible refine w_lt ?_
  | with_reducible refine w_le ?_
  | with_reducible refine w_gt ?_
  | with_reducible refine w_ge ?_
  | with_reducible refine w_eqI ?_
  | with_reducible refine w_neI ?_
  | with_reducible refine w_eqS ?_
  | with_reducible refine w_neS ?_
  | with_reducible refine w_lenS ?_
  | with_reducible refine w_lenT ?_
  | with_reducible refine w_lenL ?_
  | with_reducible refine w_lenF ?_
  | with_reducible refine w_lenD ?_
  | with_reducible refine w_int ?_
  | with_reducible refine w_intB ?_
  | with_reducible refine w_abs ?_
  | with_reducible refine w_max ?_
  | with_reducible refine w_min ?_
  | with_reducible refine w_tupL ?_
  | with_reducible refine w_tupT ?_
  | with_reducible refine w_listL ?_
  | with_reducible refine w_listT ?_
  | with_reducible refine w_listML ?_
  | with_reducible refine w_listMT ?_
  | with_reducible refine w_chain ?_
  | with_reducible refine w_vint ?_
  | with_reducible refine w_vbl ?_
  | with_reducible refine w_vnon ?_
  | with_reducible refine w_vstr ?_
  | with_reducible refine w_vtup ?_
  | with_reducible refine w_vlst ?_
  | with_reducible refine w_vfl ?_
  | with_reducible refine w_vdic ?_
  | with_reducible refine w_vty ?_
  | with_reducible refine w_vtm ?_
  | with_reducible refine w_vsn ?_
  | with_reducible refine w_vsc ?_
  | with_reducible refine w_starT ?_
  | with_reducible refine w_starL ?_
  | with_reducible refine w_inS ?_
  | with_reducible refine w_asD ?_
  | with_reducible refine w_asO ?_
  | with_reducible refine w_ifnt ?_
  | with_reducible refine w_ifnf ?_
  | with_reducible refine w_oi ?_
  | with_reducible refine w_it ?_
  | with_reducible refine w_itT ?_
  | with_reducible refine w_itL ?_
  | with_reducible refine w_itF ?_
  | with_reducible refine w_itS ?_
  | with_reducible refine w_rg1 ?_
  | with_reducible refine w_rg2 ?_
  | with_reducible refine w_star ?_
  | with_reducible refine w_for ?_
  | with_reducible refine w_joined ?_
  | with_reducible refine w_jsn ?_
  | with_reducible refine w_jsc ?_
  | with_reducible refine w_fmt ?_
  | with_reducible refine w_fmtS ?_
  | with_reducible refine w_setd ?_
  | with_reducible refine w_newK ?_
  | with_reducible refine w_lenSet ?_
  | with_reducible refine w_try ?_
  | with_reducible refine w_put ?_
  | ((with_reducible refine' w_var ?h ?_); (case h => exact rfl))
  | ((with_reducible refine' w_aug ?h ?_); (case h => exact rfl))
  | ((with_reducible refine' w_own ?h ?_); (case h => assumption))
  | ((with_reducible refine' w_frzO ?h ?_); (case h => assumption))
  | ((with_reducible refine' w_isN ?h ?_); (case h => exact rfl))
  | ((with_reducible refine' w_notN ?h ?_); (case h => exact rfl))
  | ((with_reducible refine' w_gtp ?h ?_); (case h => exact rfl))
  | ((with_reducible refine' w_mod ?h ?_); (case h => decide))
  | ((with_reducible refine' w_itO ?h ?_); (case h => assumption))
  | ((with_reducible refine' w_isiY ?h1 ?h2 ?h3 ?h4 ?_); (case h1 => exact rfl); (case h4 => decide); (case h2 => decide); (case h3 => (intro _ hh; cases hh)))
  | ((with_reducible refine' w_isiN ?h1 ?h2 ?h3 ?h4 ?_); (case h1 => exact rfl); (case h4 => decide); (case h2 => decide); (case h3 => (intro _ hh; cases hh)))
  | ((with_reducible refine And.intro ?h ?_); (case h => (show Sz _; first | decide | (simp only [List.length_cons, List.length_nil]; decide) | assumption)))
  | with_reducible refine w_eqEm ?_
  | with_reducible refine w_neEm ?_
  | with_reducible refine w_eqR ?_
  | with_reducible refine w_neR ?_
  | with_reducible refine w_notT ?_
  | with_reducible refine w_isT ?_
  | with_reducible refine w_isF ?_
  | with_reducible refine w_notF ?_
  | with_reducible refine w_rev ?_
  | with_reducible refine w_revL ?_
  | with_reducible refine w_revT ?_
  | with_reducible refine w_en ?_
  | with_reducible refine w_enL ?_
  | with_reducible refine w_zp ?_
  | with_reducible refine w_zpL ?_
  | with_reducible refine w_zpT ?_
  | with_reducible refine w_listDD ?_
  | ((with_reducible refine' w_gtl ?h ?_); (case h => exact rfl))
  | ((with_reducible refine' w_sfrz ?h1 ?h2 ?_); (case h1 => exact rfl); (case h2 => first | assumption | exact oput_same)))
local macro_rules | `(tactic| walk_at "vc") => `(tactic| repeat walk_at "s")
section
variable {P : Program} {w : World} {K : PySem.W.Frag} {mg : Str → Option Value} {base : Heap} {f : Addr} {fd : FuncData} {C : Str → Addr} {k : Nat}
abbrev N__law_put : List Str := ["term", "old", "new", "part"]
theorem sc__law_put : FnScope N__law_put ["term", "old", "new"] (defScope s__law_put) := ⟨rfl, rfl, rfl, by decide +kernel, rfl, by decide +kernel, by decide +kernel⟩
theorem ok__law_put (F : FnP K "_law_put" s__law_put f fd) (g : Gs K mg C) {n : Nat} (c__law_put : DFn P w K mg base "_law_put" k (sp_put n))  : FnOk P w K mg base (CX P w) (k + 1) f fd ["term", "old", "new"] (liftF K (sp_put (n + 1))) := by
  refine okD2 (t := fun W => _) F sc__law_put ?_ (fun cdv A outer s H E F0 W tk hr => (dss_cons (ds_if (dt_cmp (op_eqV (un200 hr)) l_eq (dv 0) (dv 1) rfl) (dss_one (ds_ret (dv 2))) dss_nil) (dss_one (ds_ret (de_op (op_add.or (op_add_str.or (op_catA.or op_cat))) l_add (de_slice (dv 0) do_none (do_some de_int)) (de_bt call_tuple_of l_tup rfl g.f_tuple rfl (da_cons (de_lc (own := [("part", 3)]) (tgt := .one 3) fin_data rfl sc__law_put.nd (di_any (de_slice (dv 0) (do_some de_int) do_none)) (blkOk_by (N := N__law_put) (sc := defScope s__law_put) (by decide +kernel)) List.mem_cons_self (fun _ _ _ _ _ => pg_name (i := 3) sc__law_put.nd rfl (by first | exact Or.inl rfl | exact Or.inr rfl)) (fun _ _ _ _ _ _ => dts_nil) (fun _ _ _ _ _ _ => (de_call c__law_put hr (passD0) rfl (da_cons (dv 3) (da_cons (dv 1) (da_cons (dv 2) da_nil)))))) da_nil))))))) ?_
  · rintro ds O Q E ⟨t, _, _, rfl, _⟩; rfl
  · rintro ds O Q E ⟨⟨nm, ps⟩, old, new, rfl, hk, hd, hn, q⟩
    walk_at "vc"
    refine w_eqE ordT (by rw [dep_tD]; omega) ?_
    cases e : deq (tD (.mk nm ps)) (tD old) with
    | true =>
      walk_at "vc"
      rw [tput_yes e] at q
      exact w_q q
    | false =>
      rw [tput_no e] at q
      rw [tdep] at hd
      have hl := ok_few hk
      have hd2 : ∀ t ∈ ps, tdep t ≤ n := tdeps_le.mp (by omega)
      have hk2 : ∀ t ∈ ps, t.ok = true := fun t ht => ok_part hk ht
      rw [tD]
      walk_at "vc"
      rw [dcut_tail, tDs_eq]
      refine lcq_map ps tD (fun t => tD (tput old new t)) trivial (fun t ht kk hkk => ?_) ?_
      · walk_at "vc"
        exact ⟨t, old, new, rfl, hk2 t ht, hd2 t ht, by omega, hkk⟩
      walk_at "vc"
      rw [dcut_to _ (by decide)]
      rw [show List.take (1 : Int).toNat (D.str nm :: List.map tD ps) = [D.str nm] from rfl]
      refine w_addT (by show _ ≤ 16777216; simp only [List.length_cons, List.length_map, List.length_nil]; omega) ?_
      rw [tD, tDs_eq, List.map_map] at q
      exact w_q q
/-! whether names are used alike -/
theorem rowsD_map : ∀ l : List Trm, rowsD (l.map fun s => .tup [.str s.nm, .int ((s.ps.length : Int) + 1)]) = some (l.map fun s => [KD.s s.nm, KD.i ((s.ps.length : Int) + 1)])
  | [] => rfl
  | t :: l => by rw [List.map_cons, rowsD, rowsD_map l]; rfl
theorem isT_like (t : Trm) : DS.isT t = true ↔ ∀ a ∈ subs t, ∀ b ∈ subs t, a.nm = b.nm → a.ps.length = b.ps.length := by
  have : DS.isT t = (told (rowsT t) []).isSome := rfl
  rw [this, told_like _ _ (fun k d h => by cases h)]
  constructor
  · rintro ⟨h1, _⟩ a ha b hb hab
    have := h1 (rowT a) (List.mem_map.mpr ⟨a, ha, rfl⟩) (rowT b) (List.mem_map.mpr ⟨b, hb, rfl⟩) hab
    exact Int.ofNat.inj this
  · refine fun h => ⟨fun x hx y hy hxy => ?_, fun a _ c hc => by cases hc⟩
    obtain ⟨a, ha, rfl⟩ := List.mem_map.mp hx
    obtain ⟨b, hb, rfl⟩ := List.mem_map.mp hy
    show ((a.ps.length : Int)) = b.ps.length
    rw [h a ha b hb hxy]
def sp_is_like (n : Nat) : DSp := fun ds O Q _ => ∃ (t : Trm) (R : List (List Nat × Int)), ds = [tD t] ∧ tdep t ≤ n ∧ (subs t).length < 4000 ∧ R.length < 63 ∧ (∀ s ∈ subs t, rowT s ∈ R) ∧ Q (.bl (DS.isT t)) O
abbrev N__law_is_like : List Str := ["term", "rows", "part", "row"]
theorem sc__law_is_like : FnScope N__law_is_like ["term"] (defScope s__law_is_like) := ⟨rfl, rfl, rfl, by decide +kernel, rfl, by decide +kernel, by decide +kernel⟩
theorem ok__law_is_like (F : FnP K "_law_is_like" s__law_is_like f fd) (g : Gs K mg C) {n : Nat} (c__law_below : DFn P w K mg base "_law_below" k (sp_below n))  : FnOk P w K mg base (CX P w) (k + 1) f fd ["term"] (liftF K (sp_is_like n)) := by
  refine okD2 (t := fun W => _) F sc__law_is_like ?_ (fun cdv A outer s H E F0 W tk hr => (dss_cons (ds_setLc (i := 1) (own := [("part", 2)]) (tgt := .one 2) fin_data rfl sc__law_is_like.nd rfl rfl (sw_true rfl rfl rfl (by decide +kernel)) (di_any (de_call c__law_below hr (passD tk) rfl (da_cons (dv 0) da_nil))) (blkOk_by (N := N__law_is_like) (sc := defScope s__law_is_like) (by decide +kernel)) List.mem_cons_self (fun _ _ _ _ _ => pg_name (i := 2) sc__law_is_like.nd rfl (by first | exact Or.inl rfl | exact Or.inr rfl)) (fun _ _ _ _ _ _ => dts_nil) (fun _ _ _ _ _ _ => (de_tup (da_cons (de_at hr (dv 2) de_int) (da_cons (de_b call_lenW l_len rfl g.f_len rfl (da_cons (dv 2) da_nil)) da_nil))))) (dss_one (ds_ret (de_cmp (op_eqV (un200 hr)) l_eq (de_lenSet hr rfl rfl g.f_len rfl g.f_set (dv 1)) (de_lenSet hr rfl rfl g.f_len rfl g.f_set (de_lc (own := [("row", 3)]) (tgt := .one 3) fin_data rfl sc__law_is_like.nd (di_any (dv 1)) (blkOk_by (N := N__law_is_like) (sc := defScope s__law_is_like) (by decide +kernel)) List.mem_cons_self (fun _ _ _ _ _ => pg_name (i := 3) sc__law_is_like.nd rfl (by first | exact Or.inl rfl | exact Or.inr rfl)) (fun _ _ _ _ _ _ => dts_nil) (fun _ _ _ _ _ _ => (de_at hr (dv 3) de_int)))) rfl))))) ?_
  · rintro ds O Q E ⟨t, _, rfl, _⟩; rfl
  · rintro ds O Q E ⟨t, R, rfl, h1, h2, h3, h4, q⟩
    walk_at "vc"
    refine ⟨t, rfl, h1, by omega, ?_⟩
    walk_at "vc"
    refine lcq_map (subs t) tD (fun s => .tup [.str s.nm, .int ((s.ps.length : Int) + 1)]) trivial (fun s _ kk hkk => ?_) ?_
    · obtain ⟨nm, ps⟩ := s
      rw [tD]
      walk_at "vc"
      refine w_atT atI_head ?_
      walk_at "vc"
      have e : (((D.str nm :: tDs ps).length : Nat) : Int) = ps.length + 1 := by rw [List.length_cons, tDs_len]; omega
      rw [e]
      exact hkk
    walk_at "vc"
    refine w_lenSetF (rowsD_map _) (fun M nd sub => ?_) fun E1 n1 m1 => ?_
    · refine Nat.lt_of_le_of_lt (nodup_sub (l := R.map fun r => [KD.s r.1, KD.i (r.2 + 1)]) nd fun x hx => ?_) (by rw [List.length_map]; exact h3)
      obtain ⟨s, hs, rfl⟩ := List.mem_map.mp (sub x hx)
      exact List.mem_map.mpr ⟨_, h4 s hs, rfl⟩
    walk_at "vc"
    refine lcq_map (subs t) (fun s => .tup [.str s.nm, .int ((s.ps.length : Int) + 1)]) (fun s => .str s.nm) trivial (fun s _ kk hkk => ?_) ?_
    · walk_at "vc"
      refine w_atT atI_head ?_
      exact hkk
    walk_at "vc"
    refine w_lenSetS (strsD_mapA _ _) (by rw [List.length_map]; omega) fun E2 n2 m2 => ?_
    have cf := card_fun (g := fun (x : List KD) => match x with | [.s n, _] => n | _ => []) n1 m1 n2 (fun y => by rw [m2, List.map_map]; rfl)
    have cf2 : E1.length = E2.length ↔ DS.isT t = true := by
      rw [cf, isT_like]
      constructor
      · intro h a ha b hb hab
        have := h _ (List.mem_map.mpr ⟨a, ha, rfl⟩) _ (List.mem_map.mpr ⟨b, hb, rfl⟩) hab
        simp only [List.cons.injEq, KD.s.injEq, KD.i.injEq] at this
        omega
      · intro h x hx y hy hxy
        obtain ⟨a, ha, rfl⟩ := List.mem_map.mp hx
        obtain ⟨b, hb, rfl⟩ := List.mem_map.mp hy
        have h1 : a.nm = b.nm := hxy
        rw [h1, h a ha b hb h1]
    walk_at "vc"
    have e9 : decide ((E1.length : Int) = E2.length) = DS.isT t := by
      cases z : DS.isT t with
      | true => exact decide_eq_true (by have := cf2.mpr z; omega)
      | false => exact decide_eq_false fun h => by have := cf2.mp (by omega); rw [z] at this; cases this
    rw [e9]
    exact w_q q
/-! other names -/
abbrev N__law_other_names : List Str := ["term", "names", "found", "part"]
theorem sc__law_other_names : FnScope N__law_other_names ["term", "names"] (defScope s__law_other_names) := ⟨rfl, rfl, rfl, by decide +kernel, rfl, by decide +kernel, by decide +kernel⟩
theorem ok__law_other_names (F : FnP K "_law_other_names" s__law_other_names f fd) (g : Gs K mg C) {n : Nat} (c__law_other_names : DFn P w K mg base "_law_other_names" k (sp_renamed_in n))  : FnOk P w K mg base (CX P w) (k + 1) f fd ["term", "names"] (liftF K (sp_renamed_in (n + 1))) := by
  refine okD2 (t := fun W => _) F sc__law_other_names ?_ (fun cdv A outer s H E F0 W tk hr => (dss_cons (ds_setLc (i := 2) (own := [("part", 3)]) (tgt := .one 3) fin_data rfl sc__law_other_names.nd rfl rfl (sw_true rfl rfl rfl (by decide +kernel)) (di_any (de_slice (dv 0) (do_some de_int) do_none)) (blkOk_by (N := N__law_other_names) (sc := defScope s__law_other_names) (by decide +kernel)) List.mem_cons_self (fun _ _ _ _ _ => pg_name (i := 3) sc__law_other_names.nd rfl (by first | exact Or.inl rfl | exact Or.inr rfl)) (fun _ _ _ _ _ _ => dts_nil) (fun _ _ _ _ _ _ => (de_call c__law_other_names hr (passD0) rfl (da_cons (dv 3) (da_cons (dv 1) da_nil))))) (dss_one (ds_ret (de_op (op_add.or (op_add_str.or (op_catA.or op_cat))) l_add (de_tup (da_cons (de_get2 hr (dv 1) (de_at hr (dv 0) de_int) (de_at hr (dv 0) de_int)) da_nil)) (de_bt call_tuple_of l_tup rfl g.f_tuple rfl (da_cons (dv 2) da_nil))))))) ?_
  · rintro ds O Q E ⟨t, _, rfl, _⟩; rfl
  · rintro ds O Q E ⟨⟨nm, ps⟩, ns, rfl, hk, hd, q⟩
    have hl := ok_few hk
    rw [tdep] at hd
    have hd2 : ∀ t ∈ ps, tdep t ≤ n := tdeps_le.mp (by omega)
    have hk2 : ∀ t ∈ ps, t.ok = true := fun t ht => ok_part hk ht
    rw [tD]
    walk_at "vc"
    rw [dcut_tail, tDs_eq]
    refine lcq_map ps tD (fun t => tD (tren (rnm ns) t)) trivial (fun t ht kk hkk => ?_) ?_
    · walk_at "vc"
      exact ⟨t, ns, rfl, hk2 t ht, hd2 t ht, hkk⟩
    walk_at "vc"
    refine w_get2 ?_
    walk_at "vc"
    refine ⟨rfl, ?_⟩
    walk_at "vc"
    refine w_atT atI_head ?_
    walk_at "vc"
    refine w_atT atI_head ?_
    refine w_getN ?_
    walk_at "vc"
    refine w_addT (by show _ ≤ 16777216; simp only [List.length_cons, List.length_map, List.length_nil]; omega) ?_
    rw [tren, tD, tDs_eq, trens_eq, List.map_map] at q
    exact w_q q
def opW : List Nat := [111, 112, 101, 114, 97, 116, 105, 111, 110]
def tmW : List Nat := [116, 101, 114, 109]
open Classical in
noncomputable def dueD (r : List Nat → List Nat) (t : Trm) : D := if injT' r t then tD (tren r t) else .str opW
section
variable {r : List Nat → List Nat} {t : Trm} {O : OS} {Q Qr Q' : DQ} {E' : DXQ} {x : DX} {kk : D → Prop}
theorem due_cases : (injT' r t ∧ dueD r t = tD (tren r t)) ∨ (¬ injT' r t ∧ dueD r t = .str opW) := by
  unfold dueD
  by_cases h : injT' r t
  · exact .inl ⟨h, if_pos h⟩
  · exact .inr ⟨h, if_neg h⟩
theorem due_q (q : Q (dueD r t) O) : (injT' r t → Q (tD (tren r t)) O) ∧ (¬ injT' r t → Q (.str opW) O) := by
  rcases due_cases (r := r) (t := t) with ⟨h, e⟩ | ⟨h, e⟩
  · exact ⟨fun _ => e ▸ q, fun z => absurd h z⟩
  · exact ⟨fun z => absurd z h, fun _ => e ▸ q⟩
theorem told_q (hq : ∀ d O', Qr d O' → Q' d O') (he : ∀ O', Qr (.str opW) O' → E' x O') (q : Qr (dueD r t) O) : (injT' r t → Q' (tD (tren r t)) O) ∧ (¬ injT' r t → E' x O) := by
  obtain ⟨h1, h2⟩ := due_q q
  exact ⟨fun h => hq _ _ (h1 h), fun h => he _ (h2 h)⟩
theorem due_vw : vw O (dueD r t) = dueD r t := by
  rcases due_cases (r := r) (t := t) with ⟨h, e⟩ | ⟨h, e⟩ <;> rw [e]
  · cases t; rw [tren, tD]; rfl
  · rfl
theorem due_plain : DS.plain (dueD r t) = true := by
  rcases due_cases (r := r) (t := t) with ⟨h, e⟩ | ⟨h, e⟩ <;> rw [e]
  · exact plain_tD _
  · rfl
theorem due_dep : dep (dueD r t) ≤ tdep t := by
  rcases due_cases (r := r) (t := t) with ⟨h, e⟩ | ⟨h, e⟩ <;> rw [e]
  · rw [dep_tD, tren_dep]
    exact Nat.le_refl _
  · exact Nat.zero_le _
theorem w_vdue (q : kk (dueD r t)) : Vw O (dueD r t) kk := w_vany due_vw q
end
def sp_due_names (n : Nat) : DSp := fun ds O Q _ => ∃ (t : Trm) (ns : List (List Nat × List Nat)) (R : List (List Nat)), ds = [tD t, .dic (nmK ns)] ∧ t.ok = true ∧ tdep t ≤ n ∧ (subs t).length < 4000 ∧ R.length < 64 ∧ (∀ s ∈ subs t, s.nm ∈ R) ∧
  Q (dueD (rnm ns) t) O
abbrev N__law_due_names : List Str := ["term", "names", "present", "part", "name"]
theorem sc__law_due_names : FnScope N__law_due_names ["term", "names"] (defScope s__law_due_names) := ⟨rfl, rfl, rfl, by decide +kernel, rfl, by decide +kernel, by decide +kernel⟩
theorem ok__law_due_names (F : FnP K "_law_due_names" s__law_due_names f fd) (g : Gs K mg C) {n : Nat} (c__law_other_names : DFn P w K mg base "_law_other_names" k (sp_renamed_in n)) (c__law_below : DFn P w K mg base "_law_below" k (sp_below n))  : FnOk P w K mg base (CX P w) (k + 1) f fd ["term", "names"] (liftF K (sp_due_names n)) := by
  refine okD2 (t := fun W => _) F sc__law_due_names ?_ (fun cdv A outer s H E F0 W tk hr => (dss_cons (ds_set (i := 2) sc__law_due_names.nd rfl (.inl rfl) (de_sortSet rfl rfl g.f_sorted rfl g.f_set (de_lc (own := [("part", 3)]) (tgt := .one 3) fin_data rfl sc__law_due_names.nd (di_any (de_call c__law_below hr (passD tk) rfl (da_cons (dv 0) da_nil))) (blkOk_by (N := N__law_due_names) (sc := defScope s__law_due_names) (by decide +kernel)) List.mem_cons_self (fun _ _ _ _ _ => pg_name (i := 3) sc__law_due_names.nd rfl (by first | exact Or.inl rfl | exact Or.inr rfl)) (fun _ _ _ _ _ _ => dts_nil) (fun _ _ _ _ _ _ => (de_at hr (dv 3) de_int))))) (dss_cons (ds_if (dt_cmp op_lt l_lt (de_lenSet hr rfl rfl g.f_len rfl g.f_set (de_lc (own := [("name", 4)]) (tgt := .one 4) fin_data rfl sc__law_due_names.nd (di_any (dv 2)) (blkOk_by (N := N__law_due_names) (sc := defScope s__law_due_names) (by decide +kernel)) List.mem_cons_self (fun _ _ _ _ _ => pg_name (i := 4) sc__law_due_names.nd rfl (by first | exact Or.inl rfl | exact Or.inr rfl)) (fun _ _ _ _ _ _ => dts_nil) (fun _ _ _ _ _ _ => (de_get2 hr (dv 1) (dv 4) (dv 4))))) (de_b call_lenW l_len rfl g.f_len rfl (da_cons (dv 2) da_nil)) rfl) (dss_one (ds_ret (de_str [111, 112, 101, 114, 97, 116, 105, 111, 110]))) dss_nil) (dss_one (ds_ret (de_call c__law_other_names hr (passD tk) rfl (da_cons (dv 0) (da_cons (dv 1) da_nil)))))))) ?_
  · rintro ds O Q E ⟨t, _, _, rfl, _⟩; rfl
  · rintro ds O Q E ⟨t, ns, R, rfl, hk, hd, hz, hR, hRm, q⟩
    obtain ⟨q, q2⟩ := due_q q
    walk_at "vc"
    refine w_sset ?_
    walk_at "vc"
    refine ⟨t, rfl, hd, by omega, ?_⟩
    walk_at "vc"
    refine lcq_map (subs t) tD (fun s => .str s.nm) trivial (fun s _ kk hkk => ?_) ?_
    · obtain ⟨nm, ps⟩ := s
      rw [tD]
      walk_at "vc"
      refine w_atT atI_head ?_
      exact hkk
    walk_at "vc"
    refine w_ssetS (strsD_mapA _ _) (by rw [List.length_map]; exact hz) hR (fun x hx => ?_) fun ys nd hm => ?_
    · obtain ⟨s, hs, rfl⟩ := List.mem_map.mp hx
      exact hRm s hs
    have hyl : ys.length < 64 := Nat.lt_of_le_of_lt (nodup_sub nd fun x hx => by
      obtain ⟨s, hs, rfl⟩ := List.mem_map.mp ((hm x).mp hx)
      exact hRm s hs) hR
    walk_at "vc"
    refine lcq_map ys D.str (fun a => .str (rnm ns a)) trivial (fun a _ kk hkk => ?_) ?_
    · refine w_get2 ?_
      walk_at "vc"
      refine ⟨rfl, ?_⟩
      walk_at "vc"
      exact w_getN hkk
    walk_at "vc"
    refine w_lenSetS (strsD_mapA _ _) (by rw [List.length_map]; omega) fun E2 n2 m2 => ?_
    walk_at "vc"
    have hj := nodup_lt n2 m2
    rw [nodup_mapT nd hm, List.length_map] at hj
    rw [List.length_map]
    refine w_ifd (fun h => ?_) fun h => ?_
    · walk_at "vc"
      exact w_q (q2 fun z => by have := hj.2.mpr z; omega)
    · walk_at "vc"
      refine ⟨t, ns, rfl, hk, hd, ?_⟩
      exact w_q (q (hj.2.mp (by omega)))
end
end K03

namespace DS
open PySem PySem.Spec PyProof.Rows L2
/-! ### parts of parts -/
mutual
theorem subs_in {s : Trm} : ∀ t : Trm, s ∈ subs t → (∀ u ∈ subs s, u ∈ subs t) ∧ tdep s ≤ tdep t ∧ (subs s).length ≤ (subs t).length ∧ (t.ok = true → s.ok = true)
  | .mk n ps, h => by
    rw [subs] at h
    rcases List.mem_append.mp h with h | h
    · obtain ⟨h1, h2, h3, h4⟩ := subss_in ps h
      refine ⟨fun u hu => ?_, ?_, ?_, fun z => ?_⟩
      · rw [subs]; exact List.mem_append.mpr (.inl (h1 u hu))
      · rw [tdep]; omega
      · rw [subs, List.length_append]; omega
      · rw [Trm.ok, Bool.and_eq_true] at z; exact h4 z.2
    · rw [List.mem_singleton] at h
      subst h
      exact ⟨fun u hu => hu, Nat.le_refl _, Nat.le_refl _, id⟩
theorem subss_in {s : Trm} : ∀ ts : List Trm, s ∈ subss ts → (∀ u ∈ subs s, u ∈ subss ts) ∧ tdep s ≤ tdeps ts ∧ (subs s).length ≤ (subss ts).length ∧ (Trm.oks ts = true → s.ok = true)
  | [], h => by rw [subss] at h; cases h
  | t :: ts, h => by
    rw [subss] at h
    rw [subss, tdeps, Trm.oks, Bool.and_eq_true, List.length_append]
    rcases List.mem_append.mp h with h | h
    · obtain ⟨h1, h2, h3, h4⟩ := subs_in t h
      exact ⟨fun u hu => List.mem_append.mpr (.inl (h1 u hu)), by omega, by omega, fun z => h4 z.1⟩
    · obtain ⟨h1, h2, h3, h4⟩ := subss_in ts h
      exact ⟨fun u hu => List.mem_append.mpr (.inr (h1 u hu)), by omega, by omega, fun z => h4 z.2⟩
end
section
variable {rows : List (List Nat × Int)}
mutual
theorem fits_of : ∀ t : Trm, (∀ s ∈ subs t, rowT s ∈ rows) → fits rows t = true
  | .mk n ps, h => by
    rw [subs] at h
    have h1 := h (.mk n ps) (List.mem_append.mpr (.inr (List.mem_singleton.mpr rfl)))
    rw [fits, fitss_of ps fun s hs => h s (List.mem_append.mpr (.inl hs))]
    have h1 : (n, (ps.length : Int)) ∈ rows := h1
    simp [h1]
theorem fitss_of : ∀ ts : List Trm, (∀ s ∈ subss ts, rowT s ∈ rows) → fitss rows ts = true
  | [], _ => rfl
  | t :: ts, h => by
    rw [subss] at h
    rw [fitss, fits_of t fun s hs => h s (List.mem_append.mpr (.inl hs)), fitss_of ts fun s hs => h s (List.mem_append.mpr (.inr hs))]
    rfl
end
theorem fits_sub {s t : Trm} (h : fits rows t = true) (hs : s ∈ subs t) : fits rows s = true := fits_of s fun u hu => fits_rows t h u ((subs_in t hs).1 u hu)
end
theorem subss_flat' : ∀ ps : List Trm, subss ps = ps.flatMap subs
  | [] => rfl
  | p :: ps => by rw [subss, List.flatMap_cons, subss_flat' ps]
end DS

namespace K03
open PySem PySem.Spec PyProof.Rows L2 DS
local macro_rules | `(tactic| walk_at "s") => `(tactic| first
  | with_reducible refine w_isNN ?_
  | with_reducible refine w_notNN ?_
  | with_reducible refine w_vp ?_
  | with_reducible refine w_atP0 ?_
  | with_reducible refine w_atP1 ?_
  | with_reducible refine w_isNP ?_
  | with_reducible refine w_notNP ?_
  | with_reducible refine w_itP ?_
  | with_reducible refine w_gtpP ?_
  | with_reducible refine w_seq ?_
  | with_reducible refine w_lc ?_
  | with_reducible refine w_next ?_
  | with_reducible refine w_drop ?_
  | with_reducible refine w_ret ?_
  | with_reducible refine w_retN ?_
  | with_reducible refine w_if ?_
  | with_reducible refine w_asg ?_
  | with_reducible refine w_set ?_
  | with_reducible refine w_par ?_
  | with_reducible refine w_two ?_
  | with_reducible refine w_gnm ?_
  | with_reducible refine w_raise ?_
  | with_reducible refine w_break ?_
  | with_reducible refine w_cont ?_
  | with_reducible refine w_c ?_
  | with_reducible refine w_op ?_
  | with_reducible refine w_un ?_
  | with_reducible refine w_b ?_
  | with_reducible refine w_m ?_
  | with_reducible refine w_nil ?_
  | with_reducible refine w_cons ?_
  | with_reducible refine w_val ?_
  | with_reducible refine w_asB ?_
  | with_reducible refine w_and ?_
  | with_reducible refine w_or ?_
  | with_reducible refine w_not ?_
  | with_reducible refine w_andV ?_
  | with_reducible refine w_orV ?_
  | with_reducible refine w_notE ?_
  | with_reducible refine w_notV ?_
  | with_reducible refine w_ifE ?_
  | with_reducible refine w_ift ?_
  | with_reducible refine w_iff ?_
  | with_reducible refine w_tup ?_
  | with_reducible refine w_lst ?_
  | with_reducible refine w_lstM ?_
  | with_reducible refine w_sl ?_
  | with_reducible refine w_on ?_
  | with_reducible refine w_os ?_
  | with_reducible refine w_slS ?_
  | with_reducible refine w_slT ?_
  | with_reducible refine w_slL ?_
  | with_reducible refine w_call ?_
  | with_reducible refine w_frz ?_
  | with_reducible refine w_addI ?_
  | with_reducible refine w_sub ?_
  | with_reducible refine w_inc ?_
  | with_reducible refine w_neg ?_
  | with_reducible refine w_lt ?_
  | with_reducible refine w_le ?_
  | with_reducible refine w_gt ?_
  | with_reducible refine w_ge ?_
  | with_reducible refine w_eqI ?_
  | with_reducible refine w_neI ?_
  | with_reducible refine w_eqS ?_
  | with_reducible refine w_neS ?_
  | with_reducible refine w_lenS ?_
  | with_reducible refine w_lenT ?_
  | with_reducible refine w_lenL ?_
  | with_reducible refine w_lenF ?_
  | with_reducible refine w_lenD ?_
  | with_reducible refine w_int ?_
  | with_reducible refine w_intB ?_
  | with_reducible refine w_abs ?_
  | with_reducible refine w_max ?_
  | with_reducible refine w_min ?_
  | with_reducible refine w_tupL ?_
  | with_reducible refine w_tupT ?_
  | with_reducible refine w_listL ?_
  | with_reducible refine w_listT ?_
  | with_reducible refine w_listML ?_
  | with_reducible refine w_listMT ?_
  | with_reducible refine w_chain ?_
  | with_reducible refine w_vint ?_
  | with_reducible refine w_vbl ?_
  | with_reducible refine w_vnon ?_
  | with_reducible refine w_vstr ?_
  | with_reducible refine w_vtup ?_
  | with_reducible refine w_vlst ?_
  | with_reducible refine w_vfl ?_
  | with_reducible refine w_vdic ?_
  | with_reducible refine w_vty ?_
  | with_reducible refine w_vtm ?_
  | with_reducible refine w_vsn ?_
  | with_reducible refine w_vsc ?_
  | with_reducible refine w_starT ?_
  | with_reducible refine w_starL ?_
  | with_reducible refine w_inS ?_
  | with_reducible refine w_asD ?_
  | with_reducible refine w_asO ?_
  | with_reducible refine w_ifnt ?_
  | with_reducible refine w_ifnf ?_
  | with_reducible refine w_oi ?_
  | with_reducible refine w_it ?_
  | with_reducible refine w_itT ?_
  | with_reducible refine w_itL ?_
  | with_reducible refine w_itF ?_
  | with_reducible refine w_itS ?_
  | with_reducible refine w_rg1 ?_
  | with_reducible refine w_rg2 ?_
  | with_reducible refine w_star ?_
  | with_reducible refine w_for ?_
  | with_reducible refine w_joined ?_
  | with_reducible refine w_jsn ?_
  | with_reducible refine w_jsc ?_
  | with_reducible refine w_fmt ?_
  | with_reducible refine w_fmtS ?_
  | with_reducible refine w_setd ?_
  | with_reducible refine w_newK ?_
  | with_reducible refine w_lenSet ?_
  | with_reducible refine w_try ?_
  | with_reducible refine w_put ?_
  | ((with_reducible refine' w_var ?h ?_); (case h => exact rfl))
  | ((with_reducible refine' w_aug ?h ?_); (case h => exact rfl))
  | ((with_reducible refine' w_own ?h ?_); (case h => assumption))
  | ((with_reducible refine' w_frzO ?h ?_); (case h => assumption))
  | ((with_reducible refine' w_isN ?h ?_); (case h => exact rfl))
  | ((with_reducible refine' w_notN ?h ?_); (case h => exact rfl))
  | ((with_reducible refine' w_gtp ?h ?_); (case h => exact rfl))
  | ((with_reducible refine' w_mod ?h ?_); (case h => decide))
  | ((with_reducible refine' w_itO ?h ?_); (case h => assumption))
  | ((with_reducible refine' w_isiY ?h1 ?h2 ?h3 ?h4 ?_); (case h1 => exact rfl); (case h4 => decide); (case h2 => decide); (case h3 => (intro _ hh; cases hh)))
  | ((with_reducible refine' w_isiN ?h1 ?h2 ?h3 ?h4 ?_); (case h1 => exact rfl); (case h4 => decide); (case h2 => decide); (case h3 => (intro _ hh; cases hh)))
  | ((with_reducible refine And.intro ?h ?_); (case h => (show Sz _; first | decide | (simp only [List.length_cons, List.length_nil]; decide) | assumption)))
  | with_reducible refine w_eqEm ?_
  | with_reducible refine w_neEm ?_
  | with_reducible refine w_eqR ?_
  | with_reducible refine w_neR ?_
  | with_reducible refine w_notT ?_
  | with_reducible refine w_isT ?_
  | with_reducible refine w_isF ?_
  | with_reducible refine w_notF ?_
  | with_reducible refine w_rev ?_
  | with_reducible refine w_revL ?_
  | with_reducible refine w_revT ?_
  | with_reducible refine w_en ?_
  | with_reducible refine w_enL ?_
  | with_reducible refine w_zp ?_
  | with_reducible refine w_zpL ?_
  | with_reducible refine w_zpT ?_
  | with_reducible refine w_listDD ?_
  | ((with_reducible refine' w_gtl ?h ?_); (case h => exact rfl))
  | ((with_reducible refine' w_sfrz ?h1 ?h2 ?_); (case h1 => exact rfl); (case h2 => first | assumption | exact oput_same)))
local macro_rules | `(tactic| walk_at "vc") => `(tactic| repeat walk_at "s")
section
variable {P : Program} {w : World} {K : PySem.W.Frag} {mg : Str → Option Value} {base : Heap} {f : Addr} {fd : FuncData} {C : Str → Addr} {k : Nat}
def sp_told (C : Str → Addr) : HSp := fun th O Q _ => ∀ (E' : DXQ) (Q' : DQ), (∀ d O', Q d O' → Q' d O') → (∀ O', Q (.str tmW) O' → E' (.pl (.ref (C "InvalidTerm"))) O') → (∀ O', Q (.str opW) O' → E' (.pl (.ref (C "InvalidOperation"))) O') → th E' O Q'
abbrev N__law_told : List Str := ["call"]
theorem sc__law_told : FnScope N__law_told ["call"] (defScope s__law_told) := ⟨rfl, rfl, rfl, by decide +kernel, rfl, by decide +kernel, by decide +kernel⟩
theorem ok__law_told (F : FnP K "_law_told" s__law_told f fd) (gm : mg "_law_told" = some (.ref f)) (hb : Binds K fd ["call"] []) (g : Gs K mg C) : DFnH P w K mg base "_law_told" (sp_told C) := by
  refine okH (N := N__law_told) (a := "call") (t := fun f G th W => _) F gm hb sc__law_told rfl (by first | exact .inl rfl | exact .inr (.inl rfl)) (by decide) (by decide) (fun f G th cdv A outer s H E F0 W tk act => (dss_one (ds_tryM rfl rfl tk (fun _ _ _ _ tk2 _ => (dss_one (ds_ret (act _ _ _ _ _ _ tk2)))) (.cons (ex := exK K (C "InvalidTerm")) ⟨rfl, by decide, .inl g.e_InvalidTerm.g⟩ exK_ok (fun _ _ _ _ _ _ _ => (dss_one (ds_ret (de_str [116, 101, 114, 109])))) (.cons (ex := exK K (C "InvalidOperation")) ⟨rfl, by decide, .inl g.e_InvalidOperation.g⟩ exK_ok (fun _ _ _ _ _ _ _ => (dss_one (ds_ret (de_str [111, 112, 101, 114, 97, 116, 105, 111, 110])))) .nil))))) ?_
  rintro f G th O Q E h
  refine w_tryM ?_
  walk_at "vc"
  refine ⟨rfl, h _ _ (fun d O' hq => w_q hq) (fun O' hq => ?_) (fun O' hq => ?_)⟩
  · refine hd_yes g.m_InvalidTerm ?_
    walk_at "vc"
    exact w_q hq
  · refine hd_no g.x_InvalidOperation__InvalidTerm ?_
    refine hd_yes g.m_InvalidOperation ?_
    walk_at "vc"
    exact w_q hq
theorem rgD_get {lo : Int} {n i : Nat} {d : D} (h : (rgD lo n)[i]? = some d) : i < n ∧ d = .int (lo + (i : Nat)) := by
  have hlt := (List.getElem?_eq_some_iff.mp h).1
  unfold rgD at h hlt
  rw [List.length_map, List.length_range] at hlt
  refine ⟨hlt, ?_⟩
  rw [List.getElem?_map, List.getElem?_range hlt] at h
  exact (Option.some.inj h).symm
/-- more rows for what is put in -/
def exR : List (List Nat × Int) := [([103], 1), ([104, 104], 2), ([97], 0), ([102], 1)]
def NewOk (rows : List (List Nat × Int)) (t : Trm) : Prop := t.ok = true ∧ tdep t ≤ 5 ∧ (subs t).length ≤ 81 ∧ ∀ s ∈ subs t, rowT s ∈ rows ++ exR
def OldOk (rows : List (List Nat × Int)) (t : Trm) : Prop := fits rows t = true ∧ tdep t ≤ 4 ∧ (subs t).length ≤ 40
theorem old_new {rows : List (List Nat × Int)} (hr : NamesOk rows) {t : Trm} (h : OldOk rows t) : NewOk rows t := ⟨fits_ok hr t h.1, by have := h.2.1; omega, by have := h.2.2; omega, fun s hs => List.mem_append.mpr (.inl (fits_rows t h.1 s hs))⟩
theorem gT {n : List Nat} {ps : List Trm} (h : isNm n = true) (hl : ps.length ≤ 3) (hp : ∀ t ∈ ps, t.ok = true) : (Trm.mk n ps).ok = true := by
  rw [Trm.ok, h, decide_eq_true hl, oks_all.mpr hp]; rfl
theorem new_of {rows : List (List Nat × Int)} (hr : NamesOk rows) {old v : Trm} (ho : OldOk rows old) (hv : OldOk rows v) {y : D} (hy : y ∈ [tD v, .tup [.str [103], tD old], .tup [.str [104, 104], tD old, tD old], tD old] ++ [.tup [.str [97]], .tup [.str [102], .tup [.str [97]]]]) : ∃ new, y = tD new ∧ NewOk rows new := by
  have n0 := old_new hr ho
  have o1 := n0.1
  have o2 := ho.2.1
  have o3 := ho.2.2
  have o4 := n0.2.2.2
  simp only [List.cons_append, List.nil_append, List.mem_cons, List.not_mem_nil, or_false] at hy
  have one : ∀ s r, r ∈ exR → rowT s = r → rowT s ∈ rows ++ exR := fun s r h e => by rw [e]; exact List.mem_append.mpr (.inr h)
  rcases hy with rfl | rfl | rfl | rfl | rfl | rfl
  · exact ⟨v, rfl, old_new hr hv⟩
  · refine ⟨.mk [103] [old], by simp only [tD, tDs], gT (by decide) (Nat.le_of_ble_eq_true rfl) (fun t h => by rw [List.mem_singleton] at h; rw [h]; exact o1), by simp only [tdep, tdeps]; omega, by simp only [subs, subss, List.length_append, List.length_cons, List.length_nil]; omega, fun s hs => ?_⟩
    simp only [subs, subss, List.append_nil, List.mem_append, List.mem_singleton] at hs
    rcases hs with hs | rfl
    · exact o4 s hs
    · exact one _ ([103], 1) (by decide) rfl
  · refine ⟨.mk [104, 104] [old, old], by simp only [tD, tDs], gT (by decide) (Nat.le_of_ble_eq_true rfl) (fun t h => by simp only [List.mem_cons, List.not_mem_nil, or_false, or_self] at h; rw [h]; exact o1), by simp only [tdep, tdeps]; omega, by simp only [subs, subss, List.length_append, List.length_cons, List.length_nil]; omega, fun s hs => ?_⟩
    simp only [subs, subss, List.append_nil, List.mem_append, List.mem_singleton] at hs
    rcases hs with (hs | hs) | rfl
    · exact o4 s hs
    · exact o4 s hs
    · exact one _ ([104, 104], 2) (by decide) rfl
  · exact ⟨old, rfl, n0⟩
  · refine ⟨.mk [97] [], by simp only [tD, tDs], by decide, by decide, by decide, fun s hs => ?_⟩
    simp only [subs, subss, List.nil_append, List.mem_singleton] at hs
    rw [hs]
    exact one _ ([97], 0) (by decide) rfl
  · refine ⟨.mk [102] [.mk [97] []], by simp only [tD, tDs], by decide, by decide, by decide, fun s hs => ?_⟩
    simp only [subs, subss, List.nil_append, List.append_nil, List.mem_append, List.mem_singleton] at hs
    rcases hs with rfl | rfl
    · exact one _ ([97], 0) (by decide) rfl
    · exact one _ ([102], 1) (by decide) rfl
def sp_replaced_right (T : Addr) : DSp := fun ds O Q _ => ∃ (p : Addr) (rows : List (List Nat × Int)) (t : Trm) (a b c : Int) (n : Nat), ds = [.atm (.ref p), .lst (rows.map rowD'), tD t] ∧ O T = some (.tab (lamQ "_law_replaced_right")) ∧ NamesOk rows ∧ rows.length ≤ 8 ∧ OldOk rows t ∧ O p = some (dc a b c) ∧ DcOk n a b c ∧ n + 1000 ≤ 2 ^ 40 ∧
  ∀ a b c, DcOk (n + 1000) a b c → Q (.bl true) (oput O p (dc a b c))
abbrev N__law_replaced_right : List Str := ["dice", "names", "term", "turn", "old", "some", "new", "due", "told"]
theorem sc__law_replaced_right : FnScope N__law_replaced_right ["dice", "names", "term"] (defScope s__law_replaced_right) := ⟨rfl, rfl, rfl, by decide +kernel, rfl, by decide +kernel, by decide +kernel⟩
theorem ok__law_replaced_right (F : FnP K "_law_replaced_right" s__law_replaced_right f fd) (g : Gs K mg C) {pn : He.Defn} (hf : f = He.fAd K pn) (TB : LamX.TabB base mg (He.cT K pn).1 (He.cT K pn).2) (c__law_is_like : DFn P w K mg base "_law_is_like" (k + 2) (sp_is_like 10)) (c__law_told : DFnH P w K mg base "_law_told" (sp_told C)) (c_replaced : DFn P w K mg base "replaced" k (sp_replaced (C := C) 10)) (c__law_put : DFn P w K mg base "_law_put" (k + 2) (sp_put 4)) (c__law_pick : DFn P w K mg base "_law_pick" (k + 2) sp_pick) (c__law_term : DFn P w K mg base "_law_term" (k + 2) (sp_term 4)) (c__law_below : DFn P w K mg base "_law_below" (k + 2) (sp_below 4))  : FnOkG P w K mg base (CX P w) (k + 3) f fd ["dice", "names", "term"] (liftF K (sp_replaced_right (He.cT K pn).2)) := by
  refine okDGL (t := fun W => _) pn hf F sc__law_replaced_right ?_ (fun cdv A outer s H E F0 W tk hr hgd hc => (dss_cons (ds_for (passes_of rfl) rfl (di_rg1 rfl g.f_range (da_cons de_int da_nil)) (dg_name (i := 3) sc__law_replaced_right.nd rfl (.inl rfl)) (dss_cons (ds_set (i := 4) sc__law_replaced_right.nd rfl (.inr rfl) (de_call c__law_pick hr (passD tk) rfl (da_cons (dv 0) (da_cons (de_op (op_add.or (op_add_str.or (op_catA.or op_cat))) l_add (de_call c__law_below hr (passD tk) rfl (da_cons (dv 2) da_nil)) (de_lst (da_cons (de_call c__law_term hr (passD tk) rfl (da_cons (dv 0) (da_cons (dv 1) (da_cons de_int da_nil)))) da_nil))) da_nil)))) (dss_cons (ds_set (i := 5) sc__law_replaced_right.nd rfl (.inl rfl) (de_lst (da_cons (de_call c__law_term hr (passD tk) rfl (da_cons (dv 0) (da_cons (dv 1) (da_cons de_int da_nil)))) (da_cons (de_tup (da_cons (de_str [103]) (da_cons (dv 4) da_nil))) (da_cons (de_tup (da_cons (de_str [104, 104]) (da_cons (dv 4) (da_cons (dv 4) da_nil)))) (da_cons (dv 4) da_nil)))))) (dss_cons (ds_set (i := 6) sc__law_replaced_right.nd rfl (.inr rfl) (de_call c__law_pick hr (passD tk) rfl (da_cons (dv 0) (da_cons (de_op (op_add.or (op_add_str.or (op_catA.or op_cat))) l_add (dv 5) (de_lst (da_cons (de_tup (da_cons (de_str [97]) da_nil)) (da_cons (de_tup (da_cons (de_str [102]) (da_cons (de_tup (da_cons (de_str [97]) da_nil)) da_nil))) da_nil)))) da_nil)))) (dss_cons (ds_set (i := 7) sc__law_replaced_right.nd rfl (.inl rfl) (de_call c__law_put hr (passD tk) rfl (da_cons (dv 2) (da_cons (dv 4) (da_cons (dv 6) da_nil))))) (dss_cons (ds_if (dt_not (dt_val (de_call c__law_is_like hr (passD tk) rfl (da_cons (dv 6) da_nil)))) (dss_one ds_continue) dss_nil) (dss_cons (ds_set (i := 8) sc__law_replaced_right.nd rfl (.inl rfl) (de_lam (q0 := lamQ "_law_replaced_right") c__law_told TB hc hr (passD tk) rfl (show LamX.LamS (defScope s__law_replaced_right) _ from LamX.lamS_by (by decide +kernel)) rfl (fun _ _ _ _ _ => rfl) (fun _ _ _ _ _ _ _ _ _ tk hr => (de_call c_replaced hr (passD tk) rfl (da_cons (dv 2) (da_cons (dv 4) (da_cons (dv 6) da_nil))))))) (dss_one (ds_if (dt_cmp (op_neV (un200 hr)) l_ne (dv 8) (de_if (dt_val (de_call c__law_is_like hr (passD tk) rfl (da_cons (dv 7) da_nil))) (dv 7) (de_str [116, 101, 114, 109])) rfl) (dss_one (ds_ret de_bl)) dss_nil))))))))) (dss_one (ds_ret de_bl)))) ?_
  · rintro ds O Q E ⟨p, rows, t, a, b, c, n, rfl, _⟩; rfl
  · rintro ds O Q E ⟨p, rows, t, a, b, c, n, rfl, hT, hr, hr8, ht, hO, hd, hn, q⟩
    have hTp : (He.cT K pn).2 ≠ p := fun e => by rw [e, hO] at hT; cases hT
    have hn2 : n + 1000 ≤ 1099511627776 := hn
    walk_at "vc"
    refine w_rg1q (by decide) (by decide) ?_
    have eO : O = oput O p (dc a b c) := by
      funext x
      by_cases e : x = p
      · rw [e, oput_same, hO]
      · rw [oput_ne e]
    refine ⟨fun i ρ' O' => ∃ x3 x4 x5 x6 x7 x8 a b c, ρ' = [some (.atm (.ref p)), some (.lst (rows.map rowD')), some (tD t), x3, x4, x5, x6, x7, x8] ∧ O' = oput O p (dc a b c) ∧ DcOk (n + 200 * i) a b c,
      ⟨none, none, none, none, none, none, a, b, c, rfl, eO, hd⟩, fun _ _ _ _ _ => trivial, ?_, ?_⟩
    · rintro i d ρ' O' hi ⟨x3, x4, x5, x6, x7, x8, a, b, c, rfl, rfl, hd1⟩
      obtain ⟨hi4, rfl⟩ := rgD_get hi
      have hi4 : i < 4 := hi4
      have rl3 : rl 3 = 80 := rfl
      walk_at "vc"
      refine ⟨t, rfl, ht.2.1, by have := ht.2.2; omega, ?_⟩
      walk_at "vc"
      refine ⟨p, rows, 2, a, b, c, n + 200 * i, rfl, hr, by decide, oput_same, hd1, by show n + 200 * i + 80 ≤ 1099511627776; omega, fun u a b c hu1 hu2 hu3 hd2 => ?_⟩
      have hu : OldOk rows u := ⟨hu1, hu2, hu3⟩
      rw [oput_oput]
      walk_at "vc"
      refine w_addL (by show _ ≤ 16777216; simp only [List.length_cons, List.length_nil, List.length_map]; have := ht.2.2; omega) ?_
      walk_at "vc"
      refine ⟨p, _, a, b, c, n + 200 * i + 80, rfl, by rw [List.length_append]; simp, by rw [List.length_append, List.length_map]; have := ht.2.2; simp only [List.length_cons, List.length_nil]; omega, oput_same, hd2, by show n + 200 * i + 80 ≤ 1099511627776; omega, fun x a b c hx hd3 => ?_⟩
      have hold : ∃ old, x = tD old ∧ OldOk rows old := by
        rcases List.mem_append.mp hx with h | h
        · obtain ⟨s, hs, rfl⟩ := List.mem_map.mp h
          obtain ⟨h1, h2, h3, h4⟩ := subs_in t hs
          exact ⟨s, rfl, fits_sub ht.1 hs, by have := ht.2.1; omega, by have := ht.2.2; omega⟩
        · rw [List.mem_singleton] at h
          exact ⟨u, h, hu⟩
      obtain ⟨old, rfl, hold⟩ := hold
      rw [oput_oput]
      walk_at "vc"
      refine ⟨p, rows, 3, a, b, c, n + 200 * i + 80 + 1, rfl, hr, by decide, oput_same, hd3, by show n + 200 * i + 80 + 1 + 80 ≤ 1099511627776; omega, fun v a b c hv1 hv2 hv3 hd4 => ?_⟩
      have hv : OldOk rows v := ⟨hv1, hv2, hv3⟩
      rw [oput_oput]
      walk_at "vc"
      refine w_addL (by show _ ≤ 16777216; simp only [List.length_cons, List.length_nil]; decide) ?_
      walk_at "vc"
      refine ⟨p, _, a, b, c, n + 200 * i + 80 + 1 + 80, rfl, by simp, by simp, oput_same, hd4, by show n + 200 * i + 80 + 1 + 80 ≤ 1099511627776; omega, fun y a b c hy hd5 => ?_⟩
      have hnew : ∃ new, y = tD new ∧ NewOk rows new := new_of hr hold hv hy
      obtain ⟨new, rfl, hnew⟩ := hnew
      clear hx hy
      have hdu1 : tdep (tput old new t) ≤ 9 := by have := tput_dep (old := old) (new := new) t; have := ht.2.1; have := hnew.2.1; omega
      have hdu2 : (subs (tput old new t)).length ≤ 3240 := Nat.le_trans (tput_len t) (Nat.mul_le_mul ht.2.2 hnew.2.2.1)
      have hR : (rows ++ exR).length < 63 := by rw [List.length_append]; show rows.length + 4 < 63; omega
      have hdu3 : ∀ s ∈ subs (tput old new t), rowT s ∈ rows ++ exR := tput_rows (R := fun r => r ∈ rows ++ exR) hnew.2.2.2 t fun s hs => List.mem_append.mpr (.inl (fits_rows t ht.1 s hs))
      rw [oput_oput]
      walk_at "vc"
      refine ⟨t, old, new, rfl, fits_ok hr t ht.1, ht.2.1, by decide, ?_⟩
      walk_at "vc"
      refine ⟨new, rows ++ exR, rfl, by have := hnew.2.1; omega, by have := hnew.2.2.1; omega, hR, hnew.2.2.2, ?_⟩
      cases hl : DS.isT new with
      | false =>
        walk_at "vc"
        exact ⟨_, _, _, _, _, _, a, b, c, rfl, rfl, dmono hd5 (by omega)⟩
      | true =>
        walk_at "vc"
        refine ⟨by rw [oput_ne hTp]; exact hT, fun E' Q' hq he1 he2 => ?_⟩
        walk_at "vc"
        refine ⟨t, old, new, rfl, ⟨fits_ok hr t ht.1, fits_told hr t ht.1, by have := ht.2.1; omega, by have := ht.2.2; omega⟩, ⟨fits_ok hr old hold.1, fits_told hr old hold.1, by have := hold.2.1; omega, by have := hold.2.2; omega⟩, ⟨hnew.1, hl, by have := hnew.2.1; omega, by have := hnew.2.2.1; omega⟩, by decide, by omega, by omega, fun h => ?_, fun h => ?_⟩
        · refine hq _ _ ?_
          walk_at "vc"
          refine ⟨_, rows ++ exR, rfl, by omega, by omega, hR, hdu3, ?_⟩
          rw [h]
          walk_at "vc"
          refine w_neE ordT (by rw [dep_tD]; omega) ?_
          rw [deq_refl _ (plain_tD _)]
          walk_at "vc"
          exact ⟨_, _, _, _, _, _, a, b, c, rfl, rfl, dmono hd5 (by omega)⟩
        · refine he1 _ ?_
          walk_at "vc"
          refine ⟨_, rows ++ exR, rfl, by omega, by omega, hR, hdu3, ?_⟩
          rw [h]
          walk_at "vc"
          rw [decide_eq_true (show tmW = [116, 101, 114, 109] from rfl)]
          walk_at "vc"
          exact ⟨_, _, _, _, _, _, a, b, c, rfl, rfl, dmono hd5 (by omega)⟩
    · rintro ρ' O' ⟨x3, x4, x5, x6, x7, x8, a, b, c, rfl, rfl, hd1⟩
      walk_at "vc"
      exact w_q (q a b c (dmono hd1 (show n + 200 * 4 ≤ _ by omega)))
end
end K03

namespace DS
open PySem PySem.Spec PyProof.Rows L2
/-! ### dicts from names to names, shown and made -/
theorem nm_le' {n : List Nat} (h : isNm n = true) : n.length ≤ 8 := by
  unfold isNm at h
  simp only [Bool.and_eq_true, decide_eq_true_eq] at h
  exact h.1.2
theorem nm_ltr' {n : List Nat} (h : isNm n = true) : ∀ c ∈ n, c < 123 := fun c hc => by
  unfold isNm at h
  simp only [Bool.and_eq_true, decide_eq_true_eq, List.all_eq_true] at h
  have h1 := h.2 c hc
  unfold ltr at h1
  have h2 := of_decide_eq_true h1
  revert h2
  simp only [List.mem_cons, List.not_mem_nil, or_false]
  omega
theorem rep_nm {n : List Nat} (h : isNm n = true) : (reprText (tx n)).length ≤ 82 := by
  have h1 := StrLaws.reprText_len (tx n) fun c hc => Nat.lt_trans (nm_ltr' h c (by simpa [tx] using hc)) (by decide)
  have e2 : (tx n).length = n.length := tx_len n
  have := nm_le' h
  omega
theorem shwk_nm : ∀ ns : List (List Nat × List Nat), shwk false (nmK ns) = true
  | [] => rfl
  | p :: ns => by unfold nmK; rw [List.map_cons, shwk]; exact shwk_nm ns
theorem dpqk_nm : ∀ ns : List (List Nat × List Nat), dpqk (nmK ns) = 0
  | [] => rfl
  | p :: ns => by unfold nmK; rw [List.map_cons, dpqk]; show max 0 (dpqk (nmK ns)) = 0; rw [dpqk_nm ns]; rfl
theorem shown_nm : ∀ ns : List (List Nat × List Nat), (∀ p ∈ ns, isNm p.1 = true ∧ isNm p.2 = true) → ((PyData.shownKv (pqk (nmK ns))).map (·.length)).sum ≤ 166 * ns.length ∧ (PyData.shownKv (pqk (nmK ns))).length = ns.length
  | [], _ => ⟨Nat.le_refl _, rfl⟩
  | p :: ns, h => by
    obtain ⟨h1, h2⟩ := shown_nm ns fun q hq => h q (List.mem_cons_of_mem _ hq)
    obtain ⟨a, b⟩ := h p List.mem_cons_self
    have ra := rep_nm a
    have rb := rep_nm b
    have e : PyData.shownKv (pqk (nmK (p :: ns))) = (reprText (tx p.1) ++ ": " ++ reprText (tx p.2)) :: PyData.shownKv (pqk (nmK ns)) := rfl
    rw [e, List.map_cons, List.sum_cons, List.length_cons, List.length_cons, h2]
    refine ⟨?_, rfl⟩
    have e3 : (reprText (tx p.1) ++ ": " ++ reprText (tx p.2)).length = (reprText (tx p.1)).length + 2 + (reprText (tx p.2)).length := by
      rw [strLen_append, strLen_append]; rfl
    omega
theorem rep_nmK {ns : List (List Nat × List Nat)} (h : ∀ p ∈ ns, isNm p.1 = true ∧ isNm p.2 = true) (hl : ns.length ≤ 1000) : RepOk (.dic (nmK ns)) := by
  refine ⟨⟨false, shwk_nm ns⟩, ?_, ?_⟩
  · show dpqk (nmK ns) + 1 ≤ 150
    rw [dpqk_nm]; decide
  · have h1 := dictText_len_le (PyData.shownKv (pqk (nmK ns)))
    obtain ⟨h2, h3⟩ := shown_nm ns h
    have e : rep (.dic (nmK ns)) = dictText (PyData.shownKv (pqk (nmK ns))) := rfl
    rw [e]
    show _ ≤ 16777216
    omega
theorem kput_nm (k v : List Nat) : ∀ ns : List (List Nat × List Nat), ∃ ms : List (List Nat × List Nat), kput (nmK ns) (.s k) (.str v) = nmK ms ∧ ms.length ≤ ns.length + 1 ∧ ∀ p ∈ ms, p ∈ ns ∨ p = (k, v)
  | [] => ⟨[(k, v)], rfl, Nat.le_refl _, fun p hp => .inr (List.mem_singleton.mp hp)⟩
  | q :: ns => by
    obtain ⟨ms, e, hl, hm⟩ := kput_nm k v ns
    unfold nmK
    rw [List.map_cons]
    unfold kput
    by_cases c : KD.s q.1 = KD.s k
    · rw [if_pos c]
      refine ⟨(k, v) :: ns, ?_, by rw [List.length_cons, List.length_cons]; omega, fun p hp => ?_⟩
      · rw [List.map_cons]
        first | rfl | rw [c]
      · rcases List.mem_cons.mp hp with h | h
        · exact .inr h
        · exact .inl (List.mem_cons_of_mem _ h)
    · rw [if_neg c]
      refine ⟨q :: ms, ?_, by rw [List.length_cons, List.length_cons]; omega, fun p hp => ?_⟩
      · rw [List.map_cons]
        exact congrArg _ e
      · rcases List.mem_cons.mp hp with h | h
        · exact .inl (by rw [h]; exact List.mem_cons_self)
        · exact (hm p h).imp (List.mem_cons_of_mem _) id
theorem merge_nm : ∀ (l acc : List (List Nat × List Nat)), ∃ ms : List (List Nat × List Nat), mergeD (nmK acc) (nmK l) = nmK ms ∧ ms.length ≤ acc.length + l.length ∧ ∀ p ∈ ms, p ∈ acc ∨ p ∈ l
  | [], acc => ⟨acc, rfl, Nat.le_refl _, fun p hp => .inl hp⟩
  | x :: l, acc => by
    obtain ⟨m1, e1, l1, h1⟩ := kput_nm x.1 x.2 acc
    obtain ⟨ms, e2, l2, h2⟩ := merge_nm l m1
    refine ⟨ms, ?_, by rw [List.length_cons]; omega, fun p hp => ?_⟩
    · show mergeD (kput (nmK acc) (.s x.1) (.str x.2)) (nmK l) = _
      rw [e1, e2]
    · rcases h2 p hp with h | h
      · rcases h1 p h with h | h
        · exact .inl h
        · exact .inr (by rw [h]; exact List.mem_cons_self)
      · exact .inr (List.mem_cons_of_mem _ h)
theorem pairs_nm : ∀ l : List (List Nat × List Nat), pairsKD (l.map fun p => .tup [.str p.1, .str p.2]) = some (nmK l)
  | [] => rfl
  | p :: l => by rw [List.map_cons, pairsKD, pairs_nm l]; rfl
theorem zip_strs : ∀ xs ys : List (List Nat), zipD (xs.map D.str) (ys.map D.str) = (xs.zip ys).map fun p => .tup [.str p.1, .str p.2]
  | [], ys => by cases ys <;> rfl
  | x :: xs, [] => rfl
  | x :: xs, y :: ys => by
    show D.tup [.str x, .str y] :: zipD (xs.map D.str) (ys.map D.str) = _
    rw [zip_strs xs ys]; rfl
/-- what dict() makes of such pairs -/
theorem dict_nm {O : OS} {Q : DQ} (l : List (List Nat × List Nat)) (h : ∀ p ∈ l, isNm p.1 = true ∧ isNm p.2 = true)
    (q : ∀ ns : List (List Nat × List Nat), (ns.map (·.1)).Nodup → ns.length ≤ l.length → (∀ p ∈ ns, isNm p.1 = true ∧ isNm p.2 = true) → ∀ p, O p = none → Q (.atm (.ref p)) (oput O p (.dic (nmK ns)))) : bDictM [.lst (l.map fun p => .tup [.str p.1, .str p.2])] O Q := by
  refine w_dictM (pairs_nm l) fun p hp => ?_
  obtain ⟨ms, e, hl, hm⟩ := merge_nm l []
  have e : mergeD [] (nmK l) = nmK ms := e
  have nd := (merge_keys (nmK l) [] List.nodup_nil).1
  rw [e, nmK_keys] at nd
  rw [e]
  refine q ms ((List.pairwise_map.mp nd).imp fun h z => h (by rw [z])) (by simpa using hl) (fun x hx => ?_) p hp
  rcases hm x hx with z | z
  · cases z
  · exact h x z
end DS

namespace K03
open PySem PySem.Spec PyProof.Rows L2 DS
local macro_rules | `(tactic| walk_at "s") => `(tactic| first
  | with_reducible refine w_isNN ?_
  | with_reducible refine w_notNN ?_
  | with_reducible refine w_vp ?_
  | with_reducible refine w_atP0 ?_
  | with_reducible refine w_atP1 ?_
  | with_reducible refine w_isNP ?_
  | with_reducible refine w_notNP ?_
  | with_reducible refine w_itP ?_
  | with_reducible refine w_gtpP ?_
  | with_reducible refine w_seq ?_
  | with_reducible refine w_lc ?_
  | with_reducible refine w_next ?_
  | with_reducible refine w_drop ?_
  | with_reducible refine w_ret ?_
  | with_reducible refine w_retN ?_
  | with_reducible refine w_if ?_
  | with_reducible refine w_asg ?_
  | with_reducible refine w_set ?_
  | with_reducible refine w_par ?_
  | with_reducible refine w_two ?_
  | with_reducible refine w_gnm ?_
  | with_reducible refine w_raise ?_
  | with_reducible refine w_break ?_
  | with_reducible refine w_cont ?_
  | with_reducible refine w_c ?_
  | with_reducible refine w_op ?_
  | with_reducible refine w_un ?_
  | with_reducible refine w_b ?_
  | with_reducible refine w_m ?_
  | with_reducible refine w_nil ?_
  | with_reducible refine w_cons ?_
  | with_reducible refine w_val ?_
  | with_reducible refine w_asB ?_
  | with_reducible refine w_and ?_
  | with_reducible refine w_or ?_
  | with_reducible refine w_not ?_
  | with_reducible refine w_andV ?_
  | with_reducible refine w_orV ?_
  | with_reducible refine w_notE ?_
  | with_reducible refine w_notV ?_
  | with_reducible refine w_ifE ?_
  | with_reducible refine w_ift ?_
  | with_reducible refine w_iff ?_
  | with_reducible refine w_tup ?_
  | with_reducible refine w_lst ?_
  | with_reducible refine w_lstM ?_
  | with_reducible refine w_sl ?_
  | with_reducible refine w_on ?_
  | with_reducible refine w_os ?_
  | with_reducible refine w_slS ?_
  | with_reducible refine w_slT ?_
  | with_reducible refine w_slL ?_
  | with_reducible refine w_call ?_
  | with_reducible refine w_frz ?_
  | with_reducible refine w_addI ?_
  | with_reducible refine w_sub ?_
  | with_reducible refine w_inc ?_
  | with_reducible refine w_neg ?_
  | with_reducible refine w_lt ?_
  | with_reducible refine w_le ?_
  | with_reducible refine w_gt ?_
  | with_reducible refine w_ge ?_
  | with_reducible refine w_eqI ?_
  | with_reducible refine w_neI ?_
  | with_reducible refine w_eqS ?_
  | with_reducible refine w_neS ?_
  | with_reducible refine w_lenS ?_
  | with_reducible refine w_lenT ?_
  | with_reducible refine w_lenL ?_
  | with_reducible refine w_lenF ?_
  | with_reducible refine w_lenD ?_
  | with_reducible refine w_int ?_
  | with_reducible refine w_intB ?_
  | with_reducible refine w_abs ?_
  | with_reducible refine w_max ?_
  | with_reducible refine w_min ?_
  | with_reducible refine w_tupL ?_
  | with_reducible refine w_tupT ?_
  | with_reducible refine w_listL ?_
  | with_reducible refine w_listT ?_
  | with_reducible refine w_listML ?_
  | with_reducible refine w_listMT ?_
  | with_reducible refine w_chain ?_
  | with_reducible refine w_vint ?_
  | with_reducible refine w_vbl ?_
  | with_reducible refine w_vnon ?_
  | with_reducible refine w_vstr ?_
  | with_reducible refine w_vtup ?_
  | with_reducible refine w_vlst ?_
  | with_reducible refine w_vfl ?_
  | with_reducible refine w_vdic ?_
  | with_reducible refine w_vty ?_
  | with_reducible refine w_vtm ?_
  | with_reducible refine w_vsn ?_
  | with_reducible refine w_vsc ?_
  | with_reducible refine w_starT ?_
  | with_reducible refine w_starL ?_
  | with_reducible refine w_inS ?_
  | with_reducible refine w_asD ?_
  | with_reducible refine w_asO ?_
  | with_reducible refine w_ifnt ?_
  | with_reducible refine w_ifnf ?_
  | with_reducible refine w_oi ?_
  | with_reducible refine w_it ?_
  | with_reducible refine w_itT ?_
  | with_reducible refine w_itL ?_
  | with_reducible refine w_itF ?_
  | with_reducible refine w_itS ?_
  | with_reducible refine w_rg1 ?_
  | with_reducible refine w_rg2 ?_
  | with_reducible refine w_star ?_
  | with_reducible refine w_for ?_
  | with_reducible refine w_joined ?_
  | with_reducible refine w_jsn ?_
  | with_reducible refine w_jsc ?_
  | with_reducible refine w_fmt ?_
  | with_reducible refine w_fmtS ?_
  | with_reducible refine w_setd ?_
  | with_reducible refine w_newK ?_
  | with_reducible refine w_lenSet ?_
  | with_reducible refine w_try ?_
  | with_reducible refine w_put ?_
  | ((with_reducible refine' w_var ?h ?_); (case h => exact rfl))
  | ((with_reducible refine' w_aug ?h ?_); (case h => exact rfl))
  | ((with_reducible refine' w_own ?h ?_); (case h => assumption))
  | ((with_reducible refine' w_frzO ?h ?_); (case h => assumption))
  | ((with_reducible refine' w_isN ?h ?_); (case h => exact rfl))
  | ((with_reducible refine' w_notN ?h ?_); (case h => exact rfl))
  | ((with_reducible refine' w_gtp ?h ?_); (case h => exact rfl))
  | ((with_reducible refine' w_mod ?h ?_); (case h => decide))
  | ((with_reducible refine' w_itO ?h ?_); (case h => assumption))
  | ((with_reducible refine' w_isiY ?h1 ?h2 ?h3 ?h4 ?_); (case h1 => exact rfl); (case h4 => decide); (case h2 => decide); (case h3 => (intro _ hh; cases hh)))
  | ((with_reducible refine' w_isiN ?h1 ?h2 ?h3 ?h4 ?_); (case h1 => exact rfl); (case h4 => decide); (case h2 => decide); (case h3 => (intro _ hh; cases hh)))
  | ((with_reducible refine And.intro ?h ?_); (case h => (show Sz _; first | decide | (simp only [List.length_cons, List.length_nil]; decide) | assumption)))
  | with_reducible refine w_eqEm ?_
  | with_reducible refine w_neEm ?_
  | with_reducible refine w_eqR ?_
  | with_reducible refine w_neR ?_
  | with_reducible refine w_notT ?_
  | with_reducible refine w_isT ?_
  | with_reducible refine w_isF ?_
  | with_reducible refine w_notF ?_
  | with_reducible refine w_rev ?_
  | with_reducible refine w_revL ?_
  | with_reducible refine w_revT ?_
  | with_reducible refine w_en ?_
  | with_reducible refine w_enL ?_
  | with_reducible refine w_zp ?_
  | with_reducible refine w_zpL ?_
  | with_reducible refine w_zpT ?_
  | with_reducible refine w_listDD ?_
  | ((with_reducible refine' w_gtl ?h ?_); (case h => exact rfl))
  | ((with_reducible refine' w_sfrz ?h1 ?h2 ?_); (case h1 => exact rfl); (case h2 => first | assumption | exact oput_same)))
local macro_rules | `(tactic| walk_at "vc") => `(tactic| repeat walk_at "s")
section
variable {P : Program} {w : World} {K : PySem.W.Frag} {mg : Str → Option Value} {base : Heap} {f : Addr} {fd : FuncData} {C : Str → Addr} {k : Nat}
def sp_renaming : DSp := fun ds O Q _ => ∃ (p : Addr) (t : Trm) (R : List (List Nat)) (a b c : Int) (n : Nat), ds = [.atm (.ref p), tD t] ∧ t.ok = true ∧ tdep t ≤ 4 ∧ (subs t).length ≤ 40 ∧ R.length < 64 ∧ (∀ s ∈ subs t, s.nm ∈ R) ∧ O p = some (dc a b c) ∧ DcOk n a b c ∧ n + 2000 ≤ 2 ^ 40 ∧
  ∀ ns a b c, nmsOk ns → DcOk (n + 1000) a b c → Q (.dic (nmK ns)) (oput O p (dc a b c))
theorem subs_nm {t : Trm} (h : t.ok = true) {s : Trm} (hs : s ∈ subs t) : isNm s.nm = true := by
  obtain ⟨_, _, _, h4⟩ := subs_in t hs
  have := h4 h
  cases s with
  | mk n ps => exact ok_nm this
def freshL : List (List Nat) := [[113], [113, 113], [119], [120, 105, 110], [122, 122, 122, 122, 122, 122, 122], [104, 105, 100, 100, 101, 110, 97, 97]]
theorem freshL_ok : ∀ x ∈ freshL, isNm x = true := by decide +kernel
abbrev N__law_renaming : List Str := ["dice", "term", "present", "way", "some", "fresh", "found", "name", "part"]
theorem sc__law_renaming : FnScope N__law_renaming ["dice", "term"] (defScope s__law_renaming) := ⟨rfl, rfl, rfl, by decide +kernel, rfl, by decide +kernel, by decide +kernel⟩
theorem ok__law_renaming (F : FnP K "_law_renaming" s__law_renaming f fd) (g : Gs K mg C) (c__law_pick : DFn P w K mg base "_law_pick" k sp_pick) (c__law_roll : DFn P w K mg base "_law_roll" k sp_roll) (c__law_mixed : DFn P w K mg base "_law_mixed" k sp_mixed) (c__law_below : DFn P w K mg base "_law_below" k (sp_below 4))  : FnOk P w K mg base (CX P w) (k + 1) f fd ["dice", "term"] (liftF K sp_renaming) := by
  refine okD2 (t := fun W => _) F sc__law_renaming ?_ (fun cdv A outer s H E F0 W tk hr => (dss_cons (ds_set (i := 2) sc__law_renaming.nd rfl (.inr rfl) (de_sortSet rfl rfl g.f_sorted rfl g.f_set (de_lc (own := [("part", 8)]) (tgt := .one 8) fin_data rfl sc__law_renaming.nd (di_any (de_call c__law_below hr (passD tk) rfl (da_cons (dv 1) da_nil))) (blkOk_by (N := N__law_renaming) (sc := defScope s__law_renaming) (by decide +kernel)) List.mem_cons_self (fun _ _ _ _ _ => pg_name (i := 8) sc__law_renaming.nd rfl (by first | exact Or.inl rfl | exact Or.inr rfl)) (fun _ _ _ _ _ _ => dts_nil) (fun _ _ _ _ _ _ => (de_at hr (dv 8) de_int))))) (dss_cons (ds_set (i := 3) sc__law_renaming.nd rfl (.inl rfl) (de_call c__law_roll hr (passD tk) rfl (da_cons (dv 0) (da_cons de_int da_nil)))) (dss_cons (ds_if (dt_cmp (op_eqV (un200 hr)) l_eq (dv 3) de_int rfl) (dss_one (ds_ret (de_frz (de_bt (call_dictP rfl) l_dictM rfl g.f_dict rfl (da_cons (de_listZip rfl rfl g.f_list rfl g.f_zip (da_cons (dv 2) (da_cons (de_call c__law_mixed hr (passD tk) rfl (da_cons (dv 0) (da_cons (dv 2) da_nil))) da_nil))) da_nil))))) dss_nil) (dss_cons (ds_setLc (i := 4) (own := [("name", 7)]) (tgt := .one 7) fin_data rfl sc__law_renaming.nd rfl rfl (sw_true rfl rfl rfl (by decide +kernel)) (di_any (dv 2)) (blkOk_by (N := N__law_renaming) (sc := defScope s__law_renaming) (by decide +kernel)) List.mem_cons_self (fun _ _ _ _ _ => pg_name (i := 7) sc__law_renaming.nd rfl (by first | exact Or.inl rfl | exact Or.inr rfl)) (fun _ _ _ _ _ _ => dts_one (dt_cmp (op_eqV (un200 hr)) l_eq (de_call c__law_roll hr (passD0) rfl (da_cons (dv 0) (da_cons de_int da_nil))) de_int rfl)) (fun _ _ _ _ _ _ => (dv 7))) (dss_cons (ds_set (i := 5) sc__law_renaming.nd rfl (.inr rfl) (de_op (op_add.or (op_add_str.or (op_catA.or op_cat))) l_add (de_lst (da_cons (de_str [113]) (da_cons (de_str [113, 113]) (da_cons (de_str [119]) (da_cons (de_str [120, 105, 110]) (da_cons (de_str [122, 122, 122, 122, 122, 122, 122]) (da_cons (de_str [104, 105, 100, 100, 101, 110, 97, 97]) da_nil))))))) (de_if (dt_cmp (op_eqV (un200 hr)) l_eq (dv 3) de_int rfl) (dv 2) (de_lst da_nil)))) (dss_cons (ds_setLc (i := 6) (own := [("name", 7)]) (tgt := .one 7) fin_data rfl sc__law_renaming.nd rfl rfl (sw_true rfl rfl rfl (by decide +kernel)) (di_any (dv 4)) (blkOk_by (N := N__law_renaming) (sc := defScope s__law_renaming) (by decide +kernel)) List.mem_cons_self (fun _ _ _ _ _ => pg_name (i := 7) sc__law_renaming.nd rfl (by first | exact Or.inl rfl | exact Or.inr rfl)) (fun _ _ _ _ _ _ => dts_nil) (fun _ _ _ _ _ _ => (de_tup (da_cons (dv 7) (da_cons (de_call c__law_pick hr (passD0) rfl (da_cons (dv 0) (da_cons (dv 5) da_nil))) da_nil))))) (dss_cons (ds_if (dt_cmp (op_eqV (un200 hr)) l_eq (dv 3) de_int rfl) (dss_one (ds_set (i := 6) sc__law_renaming.nd rfl (.inl rfl) (de_op (op_add.or (op_add_str.or (op_catA.or op_cat))) l_add (dv 6) (de_lc (own := [("name", 7)]) (tgt := .one 7) fin_data rfl sc__law_renaming.nd (di_any (de_tup (da_cons (de_str [107]) (da_cons (de_str [107, 107]) da_nil)))) (blkOk_by (N := N__law_renaming) (sc := defScope s__law_renaming) (by decide +kernel)) List.mem_cons_self (fun _ _ _ _ _ => pg_name (i := 7) sc__law_renaming.nd rfl (by first | exact Or.inl rfl | exact Or.inr rfl)) (fun _ _ _ _ _ _ => dts_nil) (fun _ _ _ _ _ _ => (de_tup (da_cons (dv 7) (da_cons (de_call c__law_pick hr (passD0) rfl (da_cons (dv 0) (da_cons (dv 2) da_nil))) da_nil)))))))) dss_nil) (dss_one (ds_ret (de_frz (de_bt (call_dictP rfl) l_dictM rfl g.f_dict rfl (da_cons (dv 6) da_nil))))))))))))) ?_
  · rintro ds O Q E ⟨p, t, R, a, b, c, n, rfl, _⟩; rfl
  · rintro ds O Q E ⟨p, t, R, a, b, c, n, rfl, hk, hd, hz, hR, hRm, hO, hdc, hn, q⟩
    have hn2 : n + 2000 ≤ 1099511627776 := hn
    walk_at "vc"
    refine w_sset ?_
    walk_at "vc"
    refine ⟨t, rfl, hd, by omega, ?_⟩
    walk_at "vc"
    refine lcq_map (subs t) tD (fun s => .str s.nm) trivial (fun s _ kk hkk => ?_) ?_
    · obtain ⟨nm, ps⟩ := s
      rw [tD]
      walk_at "vc"
      refine w_atT atI_head ?_
      exact hkk
    walk_at "vc"
    refine w_ssetS (strsD_mapA _ _) (by rw [List.length_map]; omega) hR (fun x hx => ?_) fun ys nd hm => ?_
    · obtain ⟨s, hs, rfl⟩ := List.mem_map.mp hx
      exact hRm s hs
    have hyl : ys.length < 64 := Nat.lt_of_le_of_lt (nodup_sub nd fun x hx => by
      obtain ⟨s, hs, rfl⟩ := List.mem_map.mp ((hm x).mp hx)
      exact hRm s hs) hR
    have hyn : ∀ y ∈ ys, isNm y = true := fun y hy => by
      obtain ⟨s, hs, rfl⟩ := List.mem_map.mp ((hm y).mp hy)
      exact subs_nm hk hs
    have hy1 : 1 ≤ ys.length := by
      obtain ⟨nm, ps⟩ := t
      have h1 : nm ∈ ys := (hm nm).mpr (List.mem_map.mpr ⟨.mk nm ps, by rw [subs]; exact List.mem_append.mpr (.inr (List.mem_singleton.mpr rfl)), rfl⟩)
      exact List.length_pos_of_mem h1
    walk_at "vc"
    refine ⟨p, 4, a, b, c, n, rfl, by decide, by decide, hO, hdc, by omega, fun way a b c w1 w2 hd2 => ?_⟩
    clear hdc
    walk_at "vc"
    refine w_ifd (fun h0 => ?_) fun h0 => ?_
    · walk_at "vc"
      refine w_lz2 ?_
      walk_at "vc"
      refine ⟨p, _, a, b, c, n + 1, rfl, by rw [List.length_map]; omega, plains_strs ys, oput_same, hd2, by show n + 1 + 1000 ≤ 1099511627776; omega, fun zs a b c hp hd3 => ?_⟩
      obtain ⟨ms, pm, rfl⟩ := perm_map D.str hp ys rfl
      rw [List.length_map] at hd3
      refine ⟨by show _ ≤ 16777216; rw [List.length_map]; omega, ?_⟩
      rw [zip_strs]
      dsimp only
      walk_at "vc"
      refine dict_nm _ (fun x hx => ?_) fun ns nd2 hl2 hn3 r hr => ?_
      · obtain ⟨h1, h2⟩ := List.of_mem_zip hx
        exact ⟨hyn _ h1, hyn _ (pm.mem_iff.mp h2)⟩
      refine w_frzO oput_same ?_
      rw [odel_oput hr, oput_oput]
      rw [List.length_zip] at hl2
      exact w_q (q ns a b c ⟨nd2, by omega, hn3⟩ (dmono hd3 (by omega)))
    · walk_at "vc"
      refine ⟨fun i acc O' => ∃ (sel : List (List Nat)) (a b c : Int), acc = sel.map D.str ∧ sel.length ≤ i ∧ (∀ x ∈ sel, isNm x = true) ∧ O' = oput O p (dc a b c) ∧ DcOk (n + 1 + i) a b c, ⟨[], a, b, c, rfl, Nat.le_refl _, fun _ h => (nomatch h), rfl, hd2⟩, fun _ _ _ _ _ => trivial, ?_, ?_⟩
      · rintro i d acc O' hi ⟨sel, a, b, c, rfl, hl, hs, rfl, hd3⟩
        rw [List.getElem?_map] at hi
        cases hy : ys[i]? with
        | none => rw [hy] at hi; cases hi
        | some y =>
          rw [hy] at hi
          cases hi
          have hym := List.mem_of_getElem? hy
          have hil := (List.getElem?_eq_some_iff.mp hy).1
          refine w_tone ?_
          walk_at "vc"
          refine ⟨p, 2, a, b, c, n + 1 + i, rfl, by decide, by decide, oput_same, hd3, by show n + 1 + i ≤ 1099511627776; omega, fun r a b c r1 r2 hd4 => ?_⟩
          rw [oput_oput]
          walk_at "vc"
          by_cases h : r = 0
          · rw [decide_eq_true h]
            refine w_ift (B := False) ?_
            walk_at "vc"
            refine ⟨sel ++ [y], a, b, c, by rw [List.map_append]; rfl, by rw [List.length_append, List.length_singleton]; omega, fun x hx => ?_, rfl, dmono hd4 (by omega)⟩
            rcases List.mem_append.mp hx with h | h
            · exact hs x h
            · rw [List.mem_singleton] at h
              rw [h]; exact hyn y hym
          · rw [decide_eq_false h]
            refine w_iff (A := False) ?_
            exact ⟨sel, a, b, c, rfl, by omega, hs, rfl, dmono hd4 (by omega)⟩
      rintro acc O' ⟨sel, a, b, c, rfl, hl, hs, rfl, hd3⟩
      rw [List.length_map] at hl hd3
      clear hd2
      refine w_asD ?_
      dsimp only
      refine w_seqJ (fun ρ' O' => ∃ (fr : List (List Nat)), ρ' = [some (.atm (.ref p)), some (tD t), some (.lst (ys.map D.str)), some (.int way), some (.lst (sel.map D.str)), some (.lst (fr.map D.str)), none, none, none] ∧ O' = oput O p (dc a b c) ∧ (∀ x ∈ fr, isNm x = true) ∧ 1 ≤ fr.length ∧ fr.length ≤ 100) (fun J hJ => ?_) ?_
      · walk_at "vc"
        refine w_ifd (fun h1 => ?_) fun h1 => ?_
        · walk_at "vc"
          refine w_addL (by show _ ≤ 16777216; simp only [List.length_cons, List.length_nil, List.length_map]; omega) ?_
          walk_at "vc"
          refine hJ _ _ ⟨freshL ++ ys, by rw [List.map_append]; rfl, rfl, fun x hx => ?_, by rw [List.length_append]; show 1 ≤ 6 + _; omega, by rw [List.length_append]; show 6 + _ ≤ 100; omega⟩
          rcases List.mem_append.mp hx with h | h
          · exact freshL_ok x h
          · exact hyn x h
        · walk_at "vc"
          refine w_addL (by show _ ≤ 16777216; decide) ?_
          walk_at "vc"
          exact hJ _ _ ⟨freshL, rfl, rfl, freshL_ok, by decide, by decide⟩
      · rintro ρ' O' ⟨fr, rfl, rfl, hf1, hf2, hf3⟩
        walk_at "vc"
        refine ⟨fun i acc O' => ∃ (prs : List (List Nat × List Nat)) (a b c : Int), acc = prs.map (fun p => D.tup [.str p.1, .str p.2]) ∧ prs.length ≤ i ∧ (∀ x ∈ prs, isNm x.1 = true ∧ isNm x.2 = true) ∧ O' = oput O p (dc a b c) ∧ DcOk (n + 100 + i) a b c, ⟨[], a, b, c, rfl, Nat.le_refl _, fun _ h => (nomatch h), rfl, dmono hd3 (by omega)⟩, fun _ _ _ _ _ => trivial, ?_, ?_⟩
        · rintro i d acc O' hi ⟨prs, a, b, c, rfl, hl2, hp2, rfl, hd4⟩
          rw [List.getElem?_map] at hi
          cases hy : sel[i]? with
          | none => rw [hy] at hi; cases hi
          | some y =>
            rw [hy] at hi
            cases hi
            have hym := List.mem_of_getElem? hy
            have hil := (List.getElem?_eq_some_iff.mp hy).1
            refine w_tone ?_
            refine w_yes ?_
            walk_at "vc"
            refine ⟨p, _, a, b, c, n + 100 + i, rfl, by rw [List.length_map]; omega, by rw [List.length_map]; omega, oput_same, hd4, by show n + 100 + i ≤ 1099511627776; omega, fun x a b c hx hd5 => ?_⟩
            obtain ⟨z, hz2, rfl⟩ := List.mem_map.mp hx
            rw [oput_oput]
            walk_at "vc"
            refine ⟨prs ++ [(y, z)], a, b, c, by rw [List.map_append]; rfl, by rw [List.length_append, List.length_singleton]; omega, fun x hx => ?_, rfl, dmono hd5 (by omega)⟩
            rcases List.mem_append.mp hx with h | h
            · exact hp2 x h
            · rw [List.mem_singleton] at h
              rw [h]; exact ⟨hs y hym, hf1 z hz2⟩
        rintro acc O' ⟨prs, a, b, c, rfl, hl2, hp2, rfl, hd4⟩
        rw [List.length_map] at hl2 hd4
        refine w_asD ?_
        dsimp only
        walk_at "vc"
        refine w_ifd (fun h2 => ?_) fun h2 => ?_
        · walk_at "vc"
          refine ⟨fun i acc O' => ∃ (prs : List (List Nat × List Nat)) (a b c : Int), acc = prs.map (fun p => D.tup [.str p.1, .str p.2]) ∧ prs.length ≤ i ∧ (∀ x ∈ prs, isNm x.1 = true ∧ isNm x.2 = true) ∧ O' = oput O p (dc a b c) ∧ DcOk (n + 200 + i) a b c, ⟨[], a, b, c, rfl, Nat.le_refl _, fun _ h => (nomatch h), rfl, dmono hd4 (by omega)⟩, fun _ _ _ _ _ => trivial, ?_, ?_⟩
          · rintro i d acc O' hi ⟨prs, a, b, c, rfl, hl3, hp3, rfl, hd4⟩
            obtain ⟨y, rfl, hyk, hi2⟩ : ∃ y, d = .str y ∧ isNm y = true ∧ i < 2 := by
              match i, hi with
              | 0, h => cases h; exact ⟨_, rfl, by decide, by decide⟩
              | 1, h => cases h; exact ⟨_, rfl, by decide, by decide⟩
              | n + 2, h => cases h
            refine w_tone ?_
            refine w_yes ?_
            walk_at "vc"
            refine ⟨p, _, a, b, c, n + 200 + i, rfl, by rw [List.length_map]; omega, by rw [List.length_map]; omega, oput_same, hd4, by show n + 200 + i ≤ 1099511627776; omega, fun x a b c hx hd5 => ?_⟩
            obtain ⟨z, hz2, rfl⟩ := List.mem_map.mp hx
            rw [oput_oput]
            walk_at "vc"
            refine ⟨prs ++ [(y, z)], a, b, c, by rw [List.map_append]; rfl, by rw [List.length_append, List.length_singleton]; omega, fun x hx => ?_, rfl, dmono hd5 (by omega)⟩
            rcases List.mem_append.mp hx with h | h
            · exact hp3 x h
            · rw [List.mem_singleton] at h
              rw [h]; exact ⟨hyk, hyn z hz2⟩
          rintro acc O' ⟨pr2, a, b, c, rfl, hl3, hp3, rfl, hd5⟩
          have hl3 : pr2.length ≤ 2 := hl3
          have hd5 : DcOk (n + 200 + 2) a b c := hd5
          refine w_asD ?_
          dsimp only
          walk_at "vc"
          refine w_addL (by show _ ≤ 16777216; simp only [List.length_map]; omega) ?_
          rw [← List.map_append]
          walk_at "vc"
          refine dict_nm _ (fun x hx => ?_) fun ns nd2 hl4 hn3 r hr => ?_
          · rcases List.mem_append.mp hx with h | h
            · exact hp2 x h
            · exact hp3 x h
          refine w_frzO oput_same ?_
          rw [odel_oput hr]
          rw [List.length_append] at hl4
          exact w_q (q ns a b c ⟨nd2, by omega, hn3⟩ (dmono hd5 (by omega)))
        · walk_at "vc"
          refine dict_nm _ hp2 fun ns nd2 hl4 hn3 r hr => ?_
          refine w_frzO oput_same ?_
          rw [odel_oput hr]
          exact w_q (q ns a b c ⟨nd2, by omega, hn3⟩ (dmono hd4 (by omega)))
end
end K03

namespace DS
open PySem PySem.Spec PyProof.Rows L2
/-! ### def f(a, .., **names), called with keywords -/
section
variable {P : Program} {w : World} {A : Around} {s : Shared} {E : Value → Shared → Prop}
theorem nsSet_dictOf {d : Addr} {kvs : List (Key × Value)} {name : Str} {v : Value} {Q : Unit → Shared → Prop} (D : s.heap.DictOf (mixKind P w) d kvs) (hn : (Sum.inr name : Key) ∉ kvs.map (·.1))
    (hQ : ∀ h', h'.DictOf (mixKind P w) d (kvs ++ [(.inr name, v)]) → Heap.SameBut d s.heap h' → Q () { s with heap := h', toks := s.toks + 1 }) : wpAny (model P w) A (nsSet d name v) Q E s := by
  intro Γ p hΓ
  obtain ⟨o, es, ep, ho, hx, hd, hk, hp, hnd⟩ := D
  simp only [nsSet, strHash, Sem.wp_bind', Sem.wp_cmd_ask, Sem.wp_pure', Sem.wp_cmd_mkText]
  rw [Sem.wp_loadPart_of (model P w) Γ _ p { s with toks := s.toks + 1 } (o := o) _ ho]
  have hany : es.any (·.refKey) = false := by
    rw [Array.any_eq_false']
    intro e he
    obtain ⟨k, h1, _⟩ := hk e he
    rcases keyIs_shape h1 with ⟨i, t, _, e2⟩ | ⟨x, t, _, e2⟩ <;> simp [DictEntry.refKey, e2]
  simp only [hd, aRefKeyMayBeTheName_eq, aRefKeyMayBeTheNameByArray, hany, Bool.and_false, Bool.false_eq_true, if_false, Sem.wp_cmd_updatePart]
  refine ⟨by rw [ho]; rfl, hQ _ ?_ (Heap.SameBut.update ..)⟩
  obtain ⟨c, dd, dt, sl⟩ := o
  have hd' : dt = .dict es ep := hd
  subst hd'
  have hi : es.findIdx? (fun e => e.key.isStr name) = none := by
    cases q : es.findIdx? (fun e => e.key.isStr name) with
    | none => rfl
    | some i =>
      exfalso
      obtain ⟨hlt, h1, _⟩ := Array.findIdx?_eq_some_iff_getElem.mp q
      obtain ⟨k, h2, _⟩ := hk es[i] (Array.getElem_mem hlt)
      have hm : ∃ kv ∈ kvs, keyIs kv.1 es[i].key = true := by
        have hin : es[i] ∈ es.toList := Array.mem_toList_iff.mpr (Array.getElem_mem hlt)
        generalize es[i] = e at hin ⊢
        generalize es.toList = l at hin hp
        clear hk hany hQ hnd hn ho hx q h1 h2
        induction hp with
        | nil => cases hin
        | cons a b c ih =>
          rcases List.mem_cons.mp hin with z | z
          · subst z; exact ⟨_, List.mem_cons_self, a⟩
          · obtain ⟨kv, h, g⟩ := ih z
            exact ⟨kv, List.mem_cons_of_mem _ h, g⟩
      obtain ⟨kv, h3, h4⟩ := hm
      rcases keyIs_shape h4 with ⟨j, t, e1, e2⟩ | ⟨x, t, e1, e2⟩
      · rw [e2] at h1; simp [Value.isStr] at h1
      · rw [e2] at h1
        have : x = name := by simpa [Value.isStr] using h1
        exact hn (List.mem_map.mpr ⟨kv, h3, by rw [e1, this]⟩)
  have hput : Obj.putName name (hashStr w name) (.str name s.toks) v ⟨c, dd, .dict es ep, sl⟩ = ⟨c, dd, .dict (es.push ⟨hashStr w name, .str name s.toks, v⟩) (ep + 1), sl⟩ := by
    simp only [Obj.putName_eq, Obj.putNameByArray, hi]
  refine ⟨⟨c, dd, .dict (es.push ⟨hashStr w name, .str name s.toks, v⟩) (ep + 1), sl⟩, es.push ⟨hashStr w name, .str name s.toks, v⟩, ep + 1, ?_, ⟨hx.1, hx.2.1, hx.2.2⟩, rfl, ?_, ?_, ?_⟩
  · have := Heap.get?_update_self (Obj.putName name (hashStr w name) (.str name s.toks) v) ho (by rw [hput]; rfl)
    rw [hput] at this
    exact this
  · intro e he
    rcases Array.mem_push.mp he with z | z
    · exact hk e z
    · subst z
      exact ⟨.inr name, mixKind_str P w name _, rfl⟩
  · rw [Array.toList_push]
    exact hp.append (mixKind_str P w name _) _ _
  · rw [List.map_append, List.nodup_append]
    refine ⟨hnd, by simp, fun a ha b hb => ?_⟩
    have : b = Sum.inr name := by simpa using hb
    subst this
    exact fun z => hn (z ▸ ha)

def setAll (d : Addr) (l : List (Str × Value)) : Sem PUnit := forIn l PUnit.unit fun x _ => do
  nsSet d x.1 x.2
  pure (ForInStep.yield PUnit.unit)
theorem setAll_ok {d : Addr} : ∀ (l : List (Str × Value)) (kvs : List (Key × Value)) (s : Shared) (Q : PUnit → Shared → Prop), s.heap.DictOf (mixKind P w) d kvs → (∀ x ∈ l, (Sum.inr x.1 : Key) ∉ kvs.map (·.1)) → (l.map (·.1)).Nodup →
    (∀ h' t', h'.DictOf (mixKind P w) d (kvs ++ l.map fun x => (Sum.inr x.1, x.2)) → Heap.SameBut d s.heap h' → Q ⟨⟩ { s with heap := h', toks := t' }) → wpAny (model P w) A (setAll d l) Q E s
  | [], kvs, s, Q, D, _, _, hQ => by
    have z := hQ s.heap s.toks (by rw [List.map_nil, List.append_nil]; exact D) (Heap.SameBut.refl _ _)
    unfold setAll
    rw [List.forIn_nil]
    exact wpAny_pure z
  | (k, v) :: l, kvs, s, Q, D, hn, hd, hQ => by
    unfold setAll
    rw [List.forIn_cons]
    refine wpAny_bind (wpAny_bind (nsSet_dictOf D (hn (k, v) List.mem_cons_self) fun h1 D1 sb => wpAny_pure ?_))
    rw [List.map_cons, List.nodup_cons] at hd
    refine setAll_ok l _ { s with heap := h1, toks := s.toks + 1 } _ D1 (fun x hx => ?_) hd.2 fun h' t' D2 sb2 => ?_
    · rw [List.map_append, List.mem_append]
      rintro (z | z)
      · exact hn x (List.mem_cons_of_mem _ hx) z
      · have : x.1 = k := by simpa using z
        exact hd.1 (List.mem_map.mpr ⟨x, hx, this⟩)
    · refine hQ h' t' ?_ (sb.trans sb2)
      rw [List.map_cons]
      rw [List.append_assoc] at D2
      exact D2
end
section
variable {P : Program} {w : World} {K : PySem.W.Frag} {mg : Str → Option Value} {base : Heap} {A : Around} {outer : List Env} {s : Shared} {H : Hp}
theorem env0_new {u : HO} {h' : Heap} {t' : Nat} {a : Addr} (e0 : Env0 P w K mg base A outer s H) (kp : ∀ b x, s.heap.get? b = some x → h'.get? b = some x) (hp : s.heap.objs.size ≤ a) (sz : s.heap.objs.size ≤ h'.objs.size) (new : ObjOk P w (upd H a u) h' a u) :
    Env0 P w K mg base A outer { s with heap := h', toks := t' } (upd H a u) := by
  refine ⟨e0.frames, e0.mod, fun b x e => ⟨kp b x (e0.bs b x e).1, ?_⟩, Nat.le_trans e0.bsz sz, Heap.FunFrames.of_keeps (fun b x e _ => ⟨x, kp b x e, rfl⟩) e0.funs, fun b hb => ?_, e0.hok.laid kp hp new, e0.bare⟩
  · rw [upd_ne (Nat.ne_of_lt (Nat.lt_of_lt_of_le (Heap.lt_size (e0.bs b x e).1) hp))]
    exact (e0.bs b x e).2
  · obtain ⟨_, x, hx, _⟩ := e0.funs.mem hb
    rw [upd_ne (Nat.ne_of_lt (Nat.lt_of_lt_of_le (Heap.lt_size hx) hp))]
    exact e0.frf b hb
end
theorem kv_zip {ks : List Str} : ∀ {ks : List Str} {zs : List V} {ws : List Value}, Vals zs ws → KV ((ks.map (Sum.inr (α := Int))).zip zs) ((ks.zip ws).map fun x => ((Sum.inr x.1 : Key), x.2))
  | [], _, _, _ => .nil
  | _ :: _, _, _, .nil => .nil
  | k :: ks, _, _, .cons a b => .cons ⟨rfl, a⟩ (kv_zip (ks := ks) b)
/-- f keeps the promise sp of its parameters and the dict of its keywords, named ks -/
structure DFnW (P : Program) (w : World) (K : PySem.W.Frag) (mg : Str → Option Value) (base : Heap) (x : Str) (k : Nat) (n : Nat) (ks : List Str) (sp : DSp) : Prop where
  ex : ∃ f, mg x = some (.ref f) ∧ PySem.W.keepIn K (.ref f) = true ∧ ∀ (A : Around) (outer : List Env) (s : Shared) (H : Hp) (us ws : List Value) (vs zs : List V) (Q : VK) (E : XK), Room k A → Env0 P w K mg base A outer s H → Vals vs us → Vals zs ws → vs.length = n → zs.length = ks.length →
    liftF K sp (vs ++ zs) H Q E → codeAny (model P w) A (.call (.ref f) ⟨us, ks.zip ws⟩) (CR (L2.CX P w) outer P w H s Q E) s
theorem DFnW.mono {P : Program} {w : World} {K : PySem.W.Frag} {mg : Str → Option Value} {base : Heap} {x : Str} {j k n : Nat} {ks : List Str} {sp : DSp} (F : DFnW P w K mg base x j n ks sp) (h : j ≤ k) : DFnW P w K mg base x k n ks sp := by
  obtain ⟨f, h1, h2, h3⟩ := F.ex
  exact ⟨f, h1, h2, fun A outer s H us ws vs zs Q E hr => h3 A outer s H us ws vs zs Q E (hr.mono h)⟩
def kwSp (n : Nat) (ks : List Str) (sp : DSp) : DSp := fun ds O Q E => ∃ a es, ds = a ++ es ∧ a.length = n ∧ es.length = ks.length ∧ ∀ p, O p = none → sp (a ++ [.atm (.ref p)]) (oput O p (.dic ((ks.map fun k => KD.s (cd k)).zip es))) Q E
/-- without keywords it is a call as others -/
theorem DFnW.plain {P : Program} {w : World} {K : PySem.W.Frag} {mg : Str → Option Value} {base : Heap} {x : Str} {k n : Nat} {sp : DSp} (F : DFnW P w K mg base x k n [] (kwSp n [] sp)) : DFn P w K mg base x k (kwSp n [] sp) := by
  obtain ⟨f, h1, h2, h3⟩ := F.ex
  refine ⟨f, h1, h2, fun A outer s H us vs Q E hr e0 r h => ?_⟩
  have hl : vs.length = n := by
    obtain ⟨Z, ds, O, F, Qd, Ed, _, is, ⟨a, es, rfl, hl, he, _⟩, _, _⟩ := h
    have : es = [] := List.eq_nil_of_length_eq_zero he
    subst this
    rw [List.append_nil] at is
    rw [← is.len]; exact hl
  have z := h3 A outer s H us [] vs [] Q E hr e0 r .nil hl rfl (by rw [List.append_nil]; exact h)
  exact z
section
variable {P : Program} {w : World} {K : PySem.W.Frag} {mg : Str → Option Value} {base : Heap} {x qual : Str} {params : Arguments} {body : List Stmt} {scope : Scope} {f : Addr} {fd : FuncData}
theorem isK_zip {F : Hp} : ∀ {ks : List Str} {es : List D} {zs : List V}, (∀ k ∈ ks, KOk (.s (cd k))) → Iss K F es zs → IsK K F ((ks.map fun k => KD.s (cd k)).zip es) ((ks.map (Sum.inr (α := Int))).zip zs)
  | [], _, _, _, _ => by simp only [List.map_nil, List.zip_nil_left, IsK]
  | k :: ks, [], zs, _, h => by simp only [Iss] at h; subst h; simp only [List.map_cons, List.zip_nil_right, IsK]
  | k :: ks, e :: es, zs, hk, h => by
    simp only [Iss] at h
    obtain ⟨v, r, rfl, h1, h2⟩ := h
    simp only [List.map_cons, List.zip_cons_cons, IsK]
    refine ⟨v, _, ?_, h1, isK_zip (fun k' hk' => hk k' (List.mem_cons_of_mem _ hk')) h2, hk k List.mem_cons_self⟩
    show ((Sum.inr k : Key), v) :: _ = (kk (.s (cd k)), v) :: _
    rw [show kk (.s (cd k)) = Sum.inr (tx (cd k)) from rfl, tx_cd]
theorem okKw {N ps : List Str} {pd : Str} {k : Nat} {ks : List Str} {sp : DSp} {t : DWX → DTS} (F : FunD K x qual params body scope [] [] f fd) (S : FnScope N (ps ++ [pd]) scope) (gm : mg x = some (.ref f)) (hks : ks.Nodup) (hkok : ∀ k ∈ ks, KOk (.s (cd k))) (hkl : ks.length ≤ 1000)
    (hb : ∀ (kV doc pm : Value) (an : Option Addr) (cdv ct : Value) (us ws : List Value), us.length = ps.length → ws.length = ks.length → bindArgs (PySem.W.fnOf x qual params body scope .none kV doc pm an cdv ct) ⟨us, ks.zip ws⟩ = ((alloc ({ cls := .type "dict", data := .dict #[] } : Obj) : Sem Addr) >>= fun d => setAll d (ks.zip ws) >>= fun _ => pure (ps.zip us ++ [(pd, Value.ref d)])))
    (hd : ∀ (cdv : Value) (A : Around) (outer : List Env) (s : Shared) (H : Hp) (E : XK) (F0 : Bs) (W : DWX), Takes (cxOf (CX P w) P w K mg base N qual scope f cdv A outer s H E) (liftW K F0 W) → Room k (A.deeper (envOfC qual scope s.heap.objs.size f cdv)) →
      DSs (cxOf (CX P w) P w K mg base N qual scope f cdv A outer s H E) F0 body (t W))
    (hv : ∀ ds O Q E, sp ds O Q E → t (fun x _ O => dropE E x O) ⟨fun _ O => dropQ Q .non O, dropQ Q, fun _ _ => False, fun _ _ => False⟩ (startD N ds) O) : DFnW P w K mg base x (k + 1) ps.length ks (kwSp ps.length ks sp) := by
  obtain ⟨oc, od, dV, kV, doc, pm, an, cdv, ct, osl, rfl, lk, hcd, hD, _⟩ := F.ex
  rcases hD with ⟨_, rfl⟩ | ⟨z, _⟩
  case inr => exact absurd rfl z
  refine ⟨f, gm, F.kp, fun A outer s H us ws vs zs Q E hr e0 r rz hl hzl h => ?_⟩
  obtain ⟨Z, ds, O, F', Qd, Ed, rp, is, ⟨a, es, rfl, ha, he, h⟩, c, cx⟩ := h
  have hal : a.length = vs.length := ha.trans hl.symm
  obtain ⟨us', zs', e1, i1, i2⟩ := is.split
  have e2 : us' = vs ∧ zs' = zs := by
    have := List.append_inj e1 (by rw [hal.symm]; exact i1.len)
    exact ⟨this.1.symm, this.2.symm⟩
  obtain ⟨rfl, rfl⟩ := e2
  have hn : H s.heap.objs.size = Option.none := e0.hok.fresh (Nat.le_refl _)
  have hul : us.length = ps.length := by rw [← r.length]; exact hl
  have hwl : ws.length = ks.length := by rw [← rz.length]; exact hzl
  have hzz : ((ks.map (Sum.inr (α := Int))).zip zs').length ≤ sizeLine := by
    rw [List.length_zip, List.length_map]
    exact Nat.le_trans (Nat.min_le_left _ _) (Nat.le_trans hkl (by decide))
  refine StX.run_bnd lk hcd S hr e0 (G := fun xs H2 => ∃ p, H p = Option.none ∧ xs = us' ++ [V.ref p] ∧ H2 = upd H p (.dK ((ks.map (Sum.inr (α := Int))).zip zs'))) (fun A' Ex Q' hq => ?_) fun s2 H2 xs ⟨p, hp, ex, eH⟩ hr' => ?_
  · rw [hb kV doc pm an cdv ct us ws hul hwl]
    refine wpAny_bind (wpAny_alloc ?_)
    have big := StX.env0_big e0
    have D0 : (s.heap.push ({ cls := .type "dict", data := .dict #[] } : Obj)).DictOf (mixKind P w) s.heap.objs.size [] := by
      obtain ⟨_, _, vs0, hv0, hD0⟩ := dk_empty (P := P) (w := w) (H := H) s.heap big
      cases hv0
      exact hD0
    refine wpAny_bind (setAll_ok (ks.zip ws) [] { s with heap := s.heap.push ({ cls := .type "dict", data := .dict #[] } : Obj) } _ D0 (fun _ _ z => by cases z) ?_ fun h' t' D1 sb => wpAny_pure ?_)
    · rw [show (ks.zip ws).map (·.1) = ks from List.map_fst_zip (by omega)]
      exact hks
    · have kp : ∀ b o, s.heap.get? b = some o → h'.get? b = some o := fun b o e => by
        rw [sb.2 b (Nat.ne_of_lt (Heap.lt_size e))]
        exact Heap.get?_push_of_some _ e
      have szz : h'.objs.size = s.heap.objs.size + 1 := sb.1.trans (Heap.size_push _ _)
      have new : ObjOk P w (upd H s.heap.objs.size (.dK ((ks.map (Sum.inr (α := Int))).zip zs'))) h' s.heap.objs.size (.dK ((ks.map (Sum.inr (α := Int))).zip zs')) := by
        refine ⟨hzz, ?_, _, kv_zip (ks := ks) rz, D1⟩
        exact beq_false_of_ne (Nat.ne_of_gt big)
      have un : Un (frs outer) [] H (upd H s.heap.objs.size (.dK ((ks.map (Sum.inr (α := Int))).zip zs'))) s.heap h' := Un.laid kp (Nat.le_refl _) hn
      have z := hq { s with heap := h', toks := t' } _ (us' ++ [V.ref s.heap.objs.size]) (us ++ [Value.ref s.heap.objs.size]) (env0_new e0 kp (Nat.le_refl _) (by omega) new) un rfl (fun e s' => StX.cxUp outer s H _ _ E e s' un kp rfl) (r.append (.cons rfl .nil))
        (by rw [List.length_append, List.length_append, hl] <;> rfl) ⟨_, hn, rfl, rfl⟩
      rw [List.zip_append hul.symm] at z
      exact z
  · subst ex eH
    have w0 : Own K F' (.dic ((ks.map fun k => KD.s (cd k)).zip es)) (.dK ((ks.map (Sum.inr (α := Int))).zip zs')) := ⟨_, rfl, isK_zip hkok i2, hzz⟩
    have rp2 := rp.newO (o := .dK ((ks.map (Sum.inr (α := Int))).zip zs')) hp w0
    have h1 := h p (rp.fresh hp).2
    obtain ⟨Z1, ds1, O1, F1, Qd1, Ed1, r1, is1, ⟨Q0, E0, h1, e1, e2⟩, c1, cx1⟩ := liftF_drop (K := K) (sp := sp) (us' ++ [V.ref p]) _ Q E ⟨Z, _, _, F', Qd, Ed, rp2, i1.app (Iss.cons Is.mkAtm Iss.nil), h1, c, cx⟩
    subst e1 e2
    have tk : Takes (cxOf (CX P w) P w K mg base N qual scope f cdv A outer s2 (upd H p (.dK ((ks.map (Sum.inr (α := Int))).zip zs'))) E) (fun c d _ H' => E c d H') := takes_of (E₁ := fun e' s'' => L2.CX P w outer _ s2 E e' s'') rfl rfl rfl rfl
    refine ⟨_, hd cdv A outer s2 _ E (F1, Z1) (fun x _ O => dropE E0 x O) (tk.imp fun c d σ H' q => ?_) hr', lift_body r1 is1 (hv _ _ _ _ h1) c1⟩
    obtain ⟨Z', ρ, O', F', x, a, ix, hx⟩ := q
    have e : Z' = Z1 := a.zz
    subst e
    exact cx1 _ _ _ _ _ _ a.rep a.ext ix hx
end
end DS

namespace DS
open PySem PySem.Spec PyProof.Rows L2

/-! ### comprehensions with three sources: what a turn does, level by level -/
def Err (M : Model) (A : Around) (env : Env) (R : Result → Shared → Prop) : Value → Shared → Prop := notedBy M A env fun x s' => R (.error x) s'
/-- a level's loop, by what stands in it -/
def LoopR (M : Model) (A : Around) (e : Expr) (k : Nat) (t : Expr) (q : List Expr) (acc : Value) (env : Env) (B : (Shared → Prop) → (Value → Shared → Prop) → Shared → Prop) : Prop :=
  ∀ (it : Value) (R : Result → Shared → Prop) (J : Nat → Shared → Prop),
    (∀ n s, J n s → wpAny M A (pyNext it) (fun r a => match r with
      | none => R (.ok .next) a
      | some v => wpAny M A (letOwnedTupleGo t it v) (fun _ a => wpAny M A (assign t env v) (fun _ a =>
          wpAny M A (forIn q true fun c r => if r = true then do let ok ← isTrue c env (eval c env); pure (ForInStep.yield ok) else pure (ForInStep.yield r)) (fun ok a =>
            if ok = true then B (fun b => ∃ m, m < n ∧ J m b) (Err M A env R) a else ∃ m, m < n ∧ J m a) (Err M A env R) a) (Err M A env R) a) (Err M A env R) a) (Err M A env R) s) →
    ∀ n s, J n s → codeAny M A (.compLoop e k it acc env) R s
def srcTurn (e : Expr) (k : Nat) (t i : Expr) (q : List Expr) (j : Expr) (it acc : Value) (env : Env) : Sem Fin := do
  standAt i.pos
  match ← pyNext it with
  | none => pure (.done .next)
  | some u =>
    letOwnedTupleGo t it u
    assign t env u
    let mut fits := true
    for c in q do
      if fits then fits ← isTrue c env (eval c env)
    if fits then
      let y ← eval j env
      standAt j.pos
      let y ← foldedSetIterable j env y
      let _ ← runOwn (.compStart e (k + 1) (← holding [y] (pyIter y)) acc env) env
    again (.compLoop e k it acc env)
def lastTurn (e : Expr) (k : Nat) (t i : Expr) (q : List Expr) (elt : Expr) (it acc : Value) (env : Env) : Sem Fin := do
  standAt i.pos
  match ← pyNext it with
  | none => pure (.done .next)
  | some u =>
    letOwnedTupleGo t it u
    assign t env u
    let mut fits := true
    for c in q do
      if fits then fits ← isTrue c env (eval c env)
    if fits then
      (do let _ ← call (.builtin "list.append") [acc, ← eval elt env])
    again (.compLoop e k it acc env)
abbrev c3 (elt t0 i0 t1 i1 t2 i2 : Expr) (q0 q1 q2 : List Expr) (sc : Scope) (pos : Pos) : Expr := .ListComp elt [⟨t0, i0, q0, 0⟩, ⟨t1, i1, q1, 0⟩, ⟨t2, i2, q2, 0⟩] sc pos
theorem turn3_0 (elt t0 i0 t1 i1 t2 i2 : Expr) (q0 q1 q2 : List Expr) (sc : Scope) (pos : Pos) (it acc : Value) (env : Env) : compTurn (c3 elt t0 i0 t1 i1 t2 i2 q0 q1 q2 sc pos) 0 it acc env = srcTurn (c3 elt t0 i0 t1 i1 t2 i2 q0 q1 q2 sc pos) 0 t0 i0 q0 i1 it acc env := by rfl
theorem turn3_1 (elt t0 i0 t1 i1 t2 i2 : Expr) (q0 q1 q2 : List Expr) (sc : Scope) (pos : Pos) (it acc : Value) (env : Env) : compTurn (c3 elt t0 i0 t1 i1 t2 i2 q0 q1 q2 sc pos) 1 it acc env = srcTurn (c3 elt t0 i0 t1 i1 t2 i2 q0 q1 q2 sc pos) 1 t1 i1 q1 i2 it acc env := by rfl
theorem turn3_2 (elt t0 i0 t1 i1 t2 i2 : Expr) (q0 q1 q2 : List Expr) (sc : Scope) (pos : Pos) (it acc : Value) (env : Env) : compTurn (c3 elt t0 i0 t1 i1 t2 i2 q0 q1 q2 sc pos) 2 it acc env = lastTurn (c3 elt t0 i0 t1 i1 t2 i2 q0 q1 q2 sc pos) 2 t2 i2 q2 elt it acc env := by rfl
section
variable {prog : Program} {w : World} {A : Around} {t i j elt x0 t0 i0 t1 i1 t2 i2 : Expr} {q0 q1 q2 : List Expr} {sc : Scope} {pos : Pos} {k : Nat} {q : List Expr} {acc : Value} {env : Env}
theorem loop_src (hT : ∀ it acc env, compTurn (c3 x0 t0 i0 t1 i1 t2 i2 q0 q1 q2 sc pos) k it acc env = srcTurn (c3 x0 t0 i0 t1 i1 t2 i2 q0 q1 q2 sc pos) k t i q j it acc env) (hs : ∀ x, foldedSetIterable j env x = pure x) :
    LoopR (model prog w) A (c3 x0 t0 i0 t1 i1 t2 i2 q0 q1 q2 sc pos) k t q acc env fun P E s => wpAny (model prog w) A (eval j env) (fun x a => wpAny (model prog w) A (pyIter x) (fun it1 a => codeAny (model prog w) A (.compStart (c3 x0 t0 i0 t1 i1 t2 i2 q0 q1 q2 sc pos) (k + 1) it1 acc env) (fun r b => match r with | .ok _ => P b | .error _ => False) a) E a) E s := by
  intro it R J go n s hn
  refine codeAny_loop rfl J (fun n s hJ => ?_) n hn
  show wpAny _ A ((compTurn (c3 x0 t0 i0 t1 i1 t2 i2 q0 q1 q2 sc pos) k it acc env).onRaise (fun x => do noteFrame x env; theTreesLotGoes x)) _ _ s
  refine wpAny_noted ?_
  rw [hT]
  refine wpAny_bind (wpAny_standAt (wpAny_bind (wpAny_mono (go n s hJ) (fun r a h1 => ?_) fun _ _ z => z)))
  cases r with
  | none => exact wpAny_pure h1
  | some v =>
    refine wpAny_bind (wpAny_mono h1 (fun _ a h2 => wpAny_bind (wpAny_mono h2 (fun _ a h3 => wpAny_bind (wpAny_mono h3 (fun ok a h4 => ?_) fun _ _ z => z)) fun _ _ z => z)) fun _ _ z => z)
    cases ok with
    | false => exact wpAny_pure ⟨rfl, h4⟩
    | true =>
      refine wpAny_bind (wpAny_mono h4 (fun x a h5 => wpAny_bind (wpAny_standAt (wpAny_bind (wpAny_of_eq (hs x) (wpAny_bind (wpAny_holding (wpAny_mono h5 (fun it1 a h6 => ?_) fun _ _ z => z))))))) fun _ _ z => z)
      refine wpAny_bind (wpAny_runOwn ?_)
      rw [Around.mark_none]
      refine codeAny_mono h6 fun r b hr => ?_
      cases r with
      | error x => exact hr.elim
      | ok f => first | exact wpAny_pure ⟨rfl, hr⟩ | exact wpAny_bind (wpAny_pure (wpAny_pure ⟨rfl, hr⟩))
theorem loop_last (hT : ∀ it acc env, compTurn (c3 x0 t0 i0 t1 i1 t2 i2 q0 q1 q2 sc pos) k it acc env = lastTurn (c3 x0 t0 i0 t1 i1 t2 i2 q0 q1 q2 sc pos) k t i q elt it acc env) :
    LoopR (model prog w) A (c3 x0 t0 i0 t1 i1 t2 i2 q0 q1 q2 sc pos) k t q acc env fun P E s => wpAny (model prog w) A (eval elt env) (fun x a => wpAny (model prog w) A (call (.builtin "list.append") [acc, x]) (fun _ b => P b) E a) E s := by
  intro it R J go n s hn
  refine codeAny_loop rfl J (fun n s hJ => ?_) n hn
  show wpAny _ A ((compTurn (c3 x0 t0 i0 t1 i1 t2 i2 q0 q1 q2 sc pos) k it acc env).onRaise (fun x => do noteFrame x env; theTreesLotGoes x)) _ _ s
  refine wpAny_noted ?_
  rw [hT]
  refine wpAny_bind (wpAny_standAt (wpAny_bind (wpAny_mono (go n s hJ) (fun r a h1 => ?_) fun _ _ z => z)))
  cases r with
  | none => exact wpAny_pure h1
  | some v =>
    refine wpAny_bind (wpAny_mono h1 (fun _ a h2 => wpAny_bind (wpAny_mono h2 (fun _ a h3 => wpAny_bind (wpAny_mono h3 (fun ok a h4 => ?_) fun _ _ z => z)) fun _ _ z => z)) fun _ _ z => z)
    cases ok with
    | false => exact wpAny_pure ⟨rfl, h4⟩
    | true => exact wpAny_bind (wpAny_bind (wpAny_mono h4 (fun x a h5 => wpAny_bind (wpAny_mono h5 (fun _ b h6 => wpAny_pure (wpAny_pure ⟨rfl, h6⟩)) fun _ _ z => z)) fun _ _ z => z))
end
section
variable {prog : Program} {w : World} {A : Around} {R : Result → Shared → Prop} {s : Shared} {elt t0 i0 t1 i1 t2 i2 : Expr} {q0 q1 q2 : List Expr} {sc : Scope} {pos : Pos} {it acc : Value} {env : Env}
/-- a later level's start -/
theorem start3 {k : Nat} (hk : k = 1 ∨ k = 2) (h0 : codeAny (model prog w) A (.compLoop (c3 elt t0 i0 t1 i1 t2 i2 q0 q1 q2 sc pos) k it acc env) R s)
    (h : wpAny (model prog w) A (pyIter it) (fun it' s' => codeAny (model prog w) A (.compLoop (c3 elt t0 i0 t1 i1 t2 i2 q0 q1 q2 sc pos) k it' acc env) R s') (Err (model prog w) A env R) s) :
    codeAny (model prog w) A (.compStart (c3 elt t0 i0 t1 i1 t2 i2 q0 q1 q2 sc pos) k it acc env) R s := by
  refine codeAny_of_tree ?_
  show wpAny _ _ ((compStart (c3 elt t0 i0 t1 i1 t2 i2 q0 q1 q2 sc pos) k it acc env).onRaise (fun x => do noteFrame x env; standAt theWindowsPlace)) _ _ s
  refine wpAny_notedAt ?_
  unfold compStart
  rcases hk with rfl | rfl <;>
    (show wpAny _ _ (ask >>= _) _ _ s
     refine wpAny_bind (wpAny_askSetting (wpAny_ite ?_))
     split
     · first | exact wpAny_bind (wpAny_pure (wpAny_pure (And.intro rfl h0))) | exact wpAny_pure (And.intro rfl h0)
     · first
         | exact wpAny_bind (wpAny_rule (wpAny_bind (wpAny_standAt (wpAny_bind (wpAny_mono h (fun it' s' h' => wpAny_pure (And.intro rfl h')) fun _ _ x => x)))))
         | (refine wpAny_bind (wpAny_rule ?_); show wpAny _ _ (standAt _ >>= _) _ _ s; exact wpAny_bind (wpAny_standAt (wpAny_bind (wpAny_mono h (fun it' s' h' => wpAny_pure (And.intro rfl h')) fun _ _ x => x)))))
end
abbrev tIn (g : TG) (tt : TT) (rb : L2.St → Hp → (Hp → Prop) → Prop) (vs : List Nat) (J : It) (σ : L2.St) (N : Hp → Prop) (H0 : Hp) : Prop := ∃ W : Nat → Nat → Hp → Prop, (∃ m, W 0 m H0) ∧ ∀ i m H, W i m H →
  (J.stop i H ∧ N H) ∨ (J.go i H ∧ ∃ Nx : Hp → Prop, (∀ H', Nx H' → ∃ m', m' < m ∧ W (i + 1) m' H') ∧ ∀ x H', J.yld i H x H' → g x (wipe σ vs) H' fun σ2 H2 => wipe σ2 vs = wipe σ vs ∧ tt σ2 H2 fun b H3 => if b = true then rb σ2 H3 Nx else Nx H3)
def tLast (te : TE) (D : Addr) : L2.St → Hp → (Hp → Prop) → Prop := fun σ H N => te σ H fun y H' => ∃ acc, H' D = some (.lst acc) ∧ acc.length < sizeLine ∧ N (upd H' D (.lst (acc ++ [y])))
def tSrc (wi : TI) (g : TG) (tt : TT) (rb : L2.St → Hp → (Hp → Prop) → Prop) (vs : List Nat) : L2.St → Hp → (Hp → Prop) → Prop := fun σ H N => wi σ H fun J H' => tIn g tt rb vs J σ N H'
/-- what a body must keep -/
def BodyOk (Y : Cx) (B : (Shared → Prop) → (Value → Shared → Prop) → Shared → Prop) (rb : L2.St → Hp → (Hp → Prop) → Prop) (vi : List Nat) : Prop :=
  ∀ (pins : List (Addr × Obj)) (σ : L2.St) (H : Hp) (s : Shared) (N : Hp → Prop) (E : Value → Shared → Prop) (P : Shared → Prop), Inv Y pins σ H s → rb σ H N → (∀ H' s', Inv Y pins (wipe σ vi) H' s' → N H' → P s') → B P E s
section
variable {X : Cx} {s3 : Shared} {H3 : Hp} {scope : Scope} {ce : Env} {fp0 : List Addr} {e t : Expr} {k : Nat} {q : List Expr} {acc : Value} {B : (Shared → Prop) → (Value → Shared → Prop) → Shared → Prop} {rb : L2.St → Hp → (Hp → Prop) → Prop} {g : TG} {tt : TT} {vs vi : List Nat}
theorem inner_run (hc : X.calm = true) (LR : LoopR (model X.prog X.w) X.A e k t q acc ce B) (pg : PG (X.blk s3 H3 scope ce fp0) t g) (pt : PTs (X.blk s3 H3 scope ce fp0) q tt) (hvi : ∀ i ∈ vi, i ∈ vs) (hb : BodyOk (X.blk s3 H3 scope ce fp0) B rb vi)
    {pins : List (Addr × Obj)} {σ : L2.St} {H : Hp} {s : Shared} {it : Addr} {fp : List Addr} {J : It} {tn : Nat → Heap → Prop} {N : Hp → Prop} {R : Result → Shared → Prop} (I : Inv (X.blk s3 H3 scope ce fp0) pins (wipe σ vs) H s) (T : Turn X.prog X.w X.K t J fp it tn) (st : tn 0 s.heap)
    (f : ∀ b ∈ fp, FpOk (X.blk s3 H3 scope ce fp0) pins H b) (red : tIn g tt rb vs J σ N H) (fin : ∀ H' s', Inv (X.blk s3 H3 scope ce fp0) pins (wipe σ vs) H' s' → N H' → R (.ok .next) s') :
    codeAny (model X.prog X.w) X.A (.compLoop e k (.ref it) acc ce) R s := by
  obtain ⟨W, ⟨m, w0⟩, turn⟩ := red
  refine LR _ _ (fun n a => ∃ i H', Inv (X.blk s3 H3 scope ce fp0) pins (wipe σ vs) H' a ∧ tn i a.heap ∧ (∀ b ∈ fp, H' b = none) ∧ W i n H') ?_ m s ⟨0, H, I, st, fun b hb => (f b hb).1, w0⟩
  rintro n s1 ⟨i, H1, I1, st1, n1, w1⟩
  have stat : ∀ {H' : Hp}, (∀ b ∈ fp, H' b = none) → ∀ b ∈ fp, FpOk (X.blk s3 H3 scope ce fp0) pins H' b := fun hn b hb => ⟨hn b hb, (f b hb).2⟩
  rcases turn i n H1 w1 with ⟨stop, nn⟩ | ⟨go, Nx, hNx, step⟩
  · refine thnF (T.done (X.blk s3 H3 scope ce fp0) rfl rfl rfl hc i pins s1 _ H1 (fun _ _ => False) I1 (stat n1) st1 stop) fun r s2 ⟨hr, I2⟩ => ?_
    subst hr
    exact fin H1 s2 I2 nn
  · refine thnF (T.item (X.blk s3 H3 scope ce fp0) rfl rfl rfl hc i pins s1 _ H1 (fun _ _ => False) I1 (stat n1) st1 go) fun r s2 ⟨u, hr, h2⟩ => ?_
    subst hr
    refine thnF h2 fun _ s4 ⟨x, H4, I4, r4, y4, st4, n4⟩ => ?_
    have I5 := I4.pinned (stat n4) (T.obj _ _ st4)
    refine thnF (pg.run _ s4 _ H4 x u _ I5 r4 (step x H4 y4)) fun _ s6 ⟨σ6, H6, I6, hw, q6⟩ => ?_
    refine thnF (pt.run _ s6 σ6 H6 _ I6 q6) fun b s7 ⟨H7, I7, q7⟩ => ?_
    have fin1 : ∀ {τ : L2.St} {a : Shared} {H' : Hp}, Inv (X.blk s3 H3 scope ce fp0) (pins ++ pinsAt fp s4.heap) τ H' a → (wipe σ vs).length = τ.length → (∀ (j : Nat) v, (wipe σ vs)[j]? = some (some v) → τ[j]? = some (some v)) → Nx H' →
        ∃ m, m < n ∧ ∃ i H', Inv (X.blk s3 H3 scope ce fp0) pins (wipe σ vs) H' a ∧ tn i a.heap ∧ (∀ b ∈ fp, H' b = none) ∧ W i m H' := fun {τ a H'} I' hl hk nx => by
      obtain ⟨m', hm, w'⟩ := hNx H' nx
      have pin' : ∀ b ∈ fp, ∀ o, s4.heap.get? b = some o → a.heap.get? b = some o ∧ H' b = none := fun b hb o eo =>
        let z := I'.pin (b, o) (List.mem_append_right _ (List.mem_append_right _ (mem_pinsAt hb eo)))
        ⟨z.1, z.2.1⟩
      refine ⟨m', hm, i + 1, H', I'.unpinned.weak hl hk, T.keep _ _ _ st4 fun b hb o eo => (pin' b hb o eo).1, fun b hb => ?_, w'⟩
      obtain ⟨o, eo, _⟩ := T.obj _ _ st4 b hb
      exact (pin' b hb o eo).2
    have l6 : (wipe σ vs).length = σ6.length := by rw [← hw, wipe_length]
    cases b with
    | false =>
      simp only [Bool.false_eq_true, if_false] at q7 ⊢
      exact fin1 I7 l6 (fun j v ev => by rw [← hw] at ev; exact (wipe_some ev).1) q7
    | true =>
      simp only [if_true] at q7 ⊢
      refine hb _ σ6 H7 s7 Nx _ _ I7 q7 fun H' a I' nx => fin1 I' (l6.trans (wipe_length σ6 vi).symm) (fun j v ev => ?_) nx
      rw [← hw] at ev
      obtain ⟨e1, e2⟩ := wipe_some ev
      rw [wipe_out fun z => e2 (hvi j z)]
      exact e1
theorem body_last {elt : Expr} {te : TE} {D : Addr} (pe : PE (X.blk s3 H3 scope ce fp0) elt te) : BodyOk (X.blk s3 H3 scope ce fp0) (fun P E s => wpAny (model X.prog X.w) X.A (eval elt ce) (fun x a => wpAny (model X.prog X.w) X.A (call (.builtin "list.append") [.ref D, x]) (fun _ b => P b) E a) E s) (tLast te D) [] := by
  intro pins σ H s N E P I h fin
  refine thnF (pe.run _ s σ H _ I h) fun z s1 ⟨y, H1, I1, r1, acc, hD, hz, nx⟩ => ?_
  exact app_ok (X := X.blk s3 H3 scope ce fp0) I1 hD hz r1 fun s2 I2 => fin _ _ I2 nx
theorem body_src {elt t0 i0 t1 i1 t2 i2 : Expr} {q0 q1 q2 : List Expr} {pos : Pos} {j : Nat} {tj ij : Expr} {qj : List Expr} {wi : TI} {D : Addr} {sc : Scope} (hk : j = 1 ∨ j = 2) (hc : X.calm = true) (LR : LoopR (model X.prog X.w) X.A (c3 elt t0 i0 t1 i1 t2 i2 q0 q1 q2 sc pos) j tj qj (.ref D) ce B)
    (pi : PI (X.blk s3 H3 scope ce fp0) tj ij wi) (pg : PG (X.blk s3 H3 scope ce fp0) tj g) (pt : PTs (X.blk s3 H3 scope ce fp0) qj tt) (hvi : ∀ i ∈ vi, i ∈ vs) (hb : BodyOk (X.blk s3 H3 scope ce fp0) B rb vi) :
    BodyOk (X.blk s3 H3 scope ce fp0) (fun P E s => wpAny (model X.prog X.w) X.A (eval ij ce) (fun x a => wpAny (model X.prog X.w) X.A (pyIter x) (fun it1 a => codeAny (model X.prog X.w) X.A (.compStart (c3 elt t0 i0 t1 i1 t2 i2 q0 q1 q2 sc pos) j it1 (.ref D) ce) (fun r b => match r with | .ok _ => P b | .error _ => False) a) E a) E s) (tSrc wi g tt rb vs) vs := by
  intro pins σ H s N E P I h fin
  refine thnF (pi.run _ s σ H _ I h) fun xv s1 hx => thnF hx fun itv s2 ⟨it1, fp1, tn1, J1, H1, e1, I1, T1, st1, f1, red⟩ => ?_
  subst e1
  have loop : codeAny (model X.prog X.w) X.A (.compLoop (c3 elt t0 i0 t1 i1 t2 i2 q0 q1 q2 sc pos) j (.ref it1) (.ref D) ce) (fun r b => match r with | .ok _ => P b | .error _ => False) s2 :=
    inner_run hc LR pg pt hvi hb (I1.weak (wipe_length _ _) fun i v ev => (wipe_some ev).1) T1 st1 f1 red fun H' s' I' nx => fin H' s' I' nx
  exact start3 hk loop (T1.self X.A 0 _ _ _ st1 loop)
end
end DS

namespace DS
open PySem PySem.Spec PyProof.Rows L2
abbrev tLc3 (wi : TI) (g : TG) (tt : TT) (vs : List Nat) (rb : Addr → L2.St → Hp → (Hp → Prop) → Prop) : TE := fun σ H Q => wi σ H fun J H1 => ∀ D, H1 D = none → tIn g tt (rb D) vs J σ (fun H' => Q (.ref D) H') (upd H1 D (.lst []))
section
variable {X : Cx} {elt t0 i0 t1 i1 t2 i2 : Expr} {q0 q1 q2 : List Expr} {scope : Scope} {own : List (Str × Nat)} {vs1 vs2 : List Nat} {pos : Pos} {wi wi1 wi2 : TI} {g g1 g2 : TG} {tt tt1 tt2 : TT} {te : TE}
theorem lc3_core {pins : List (Addr × Obj)} {s : Shared} {σ : L2.St} {H : Hp} {Q : VK} {pos' : Pos} {use : Option (Value → Sem Unit)} {Qf : Value → Shared → Prop} (hc : X.calm = true) (hN : X.N.Nodup) (hi : PI X t0 i0 wi) (ok : BlkOk X.N X.env.scope scope own) (hv1 : ∀ i ∈ vs1, i ∈ own.map (·.2)) (hv2 : ∀ i ∈ vs2, i ∈ vs1)
    (hg : ∀ (s : Shared) (H : Hp) (C : Addr) (cl : List (Str × Addr)) (fp : List Addr), PG (X.blk s H scope (compEnvC scope cl C X.env) fp) t0 g ∧ PTs (X.blk s H scope (compEnvC scope cl C X.env) fp) q0 tt)
    (h1 : ∀ (s : Shared) (H : Hp) (C : Addr) (cl : List (Str × Addr)) (fp : List Addr), PI (X.blk s H scope (compEnvC scope cl C X.env) fp) t1 i1 wi1 ∧ PG (X.blk s H scope (compEnvC scope cl C X.env) fp) t1 g1 ∧ PTs (X.blk s H scope (compEnvC scope cl C X.env) fp) q1 tt1)
    (h2 : ∀ (s : Shared) (H : Hp) (C : Addr) (cl : List (Str × Addr)) (fp : List Addr), PI (X.blk s H scope (compEnvC scope cl C X.env) fp) t2 i2 wi2 ∧ PG (X.blk s H scope (compEnvC scope cl C X.env) fp) t2 g2 ∧ PTs (X.blk s H scope (compEnvC scope cl C X.env) fp) q2 tt2)
    (he : ∀ (s : Shared) (H : Hp) (C : Addr) (cl : List (Str × Addr)) (fp : List Addr), PE (X.blk s H scope (compEnvC scope cl C X.env) fp) elt te) (hs : ∀ x, foldedSetIterable i0 X.env x = pure x := by intro _; rfl) (hs1 : ∀ env x, foldedSetIterable i1 env x = pure x := by intro _ _; rfl) (hs2 : ∀ env x, foldedSetIterable i2 env x = pure x := by intro _ _; rfl)
    (I : Inv X pins σ H s) (h : tLc3 wi g tt (own.map (·.2)) (fun D => tSrc wi1 g1 tt1 (tSrc wi2 g2 tt2 (tLast te D) vs2) vs1) σ H Q)
    (hRR : ∀ D C s' m H', Inv X pins σ H' s' → Q (.ref D) H' → s'.heap.Ns C m → FpOk X pins H' C → compPost (model X.prog X.w) X.A X.xe use Qf (.ref D) C (.ok .next) s') :
    wpAny (model X.prog X.w) X.A (comprehension (c3 elt t0 i0 t1 i1 t2 i2 q0 q1 q2 scope pos) scope X.env pos' (newList []) false (eval i0 X.env) use) Qf X.xe s := by
  have hfree : ∀ y ∈ scope.names, y.2 = .free → ∃ c, X.env.cells.lookup y.1 = some c := fun y hy e => (ok.free y hy e).elim (fun z => I.ok.has _ (.inl z)) fun z => I.ok.has _ (.inr z)
  refine wpAny_comprehension_free (use := use) rfl hs (closure_ok hfree) ok.kind (fun y hy e => by rw [ok.uniq y hy, e]) (thn (hi.run pins s σ H _ I h) fun xv a hx => thn hx fun itv b hb => ?_)
  obtain ⟨it, fp, tn, J, Ha, e, Ia, T, st, fa, red⟩ := hb
  subst e
  refine wpAny_newObj_type (newEnv_comp ?_) (by show 0 ≤ sizeLine; decide)
  generalize eD : b.heap.objs.size = D
  have red := red D (Ia.hok.fresh (Nat.le_of_eq eD))
  generalize ec : ({ b with heap := b.heap.push { cls := .type "list", data := .seq ([] : List Value).toArray } } : Shared) = c
  have hh : c.heap = b.heap.push { cls := .type "list", data := .seq ([] : List Value).toArray } := by rw [← ec]
  have Ic : Inv X pins σ (upd Ha D (.lst [])) c := by
    rw [← ec]
    refine Ia.laid (t' := b.toks) (fun _ _ z => Heap.get?_push_of_some _ z) (Nat.le_of_eq eD) ⟨Nat.zero_le _, [], 0, .nil, ?_⟩
    rw [← eD]
    exact Heap.get?_push_size _ rfl
  have fc : ∀ x ∈ fp, FpOk X pins (upd Ha D (.lst [])) x ∧ x < c.heap.objs.size := fun x hx => by
    obtain ⟨o, eo, _⟩ := T.obj _ _ st x hx
    have lt := Heap.lt_size eo
    exact ⟨⟨by rw [upd_ne (by rw [← eD]; exact Nat.ne_of_lt lt)]; exact (fa x hx).1, (fa x hx).2⟩, by rw [hh, Heap.size_push]; exact Nat.lt_succ_of_lt lt⟩
  have sc : tn 0 c.heap := T.keep _ _ _ st fun _ _ _ z => by rw [hh]; exact Heap.get?_push_of_some _ z
  have Id := block_start Ic ok hN fc
  have p0 := hg c (upd Ha D (.lst [])) c.heap.objs.size (cellsFrom (c.heap.objs.size + 1) scope.names (cloFrom X.env.cells scope.names [])) fp
  have p1 := h1 c (upd Ha D (.lst [])) c.heap.objs.size (cellsFrom (c.heap.objs.size + 1) scope.names (cloFrom X.env.cells scope.names [])) fp
  have p2 := h2 c (upd Ha D (.lst [])) c.heap.objs.size (cellsFrom (c.heap.objs.size + 1) scope.names (cloFrom X.env.cells scope.names [])) fp
  have pe := he c (upd Ha D (.lst [])) c.heap.objs.size (cellsFrom (c.heap.objs.size + 1) scope.names (cloFrom X.env.cells scope.names [])) fp
  show codeAny _ _ (.compStart (c3 elt t0 i0 t1 i1 t2 i2 q0 q1 q2 scope pos) 0 (.ref it) (.ref D) (compEnvC scope (cellsFrom (c.heap.objs.size + 1) scope.names (cloFrom X.env.cells scope.names [])) c.heap.objs.size X.env)) (compPost (model X.prog X.w) X.A X.xe use Qf (.ref D) c.heap.objs.size) { c with heap := pushCells (c.heap.push { cls := .type "dict", data := .dict #[] }) scope.names }
  have nfp : ∀ x ∈ fp, (upd Ha D (.lst [])) x = none := fun x hx => (fc x hx).1.1
  generalize hce : compEnvC scope (cellsFrom (c.heap.objs.size + 1) scope.names (cloFrom X.env.cells scope.names [])) c.heap.objs.size X.env = ce at Id p0 p1 p2 pe ⊢
  have cL : ce.locals = c.heap.objs.size := by subst hce; rfl
  generalize hH : upd Ha D (.lst []) = Hc at Ic Id p0 p1 p2 pe red nfp fc
  generalize hd : ({ c with heap := pushCells (c.heap.push { cls := .type "dict", data := .dict #[] }) scope.names } : Shared) = d at Id ⊢
  have sd : tn 0 d.heap := T.keep _ _ _ sc fun _ _ _ z => by rw [← hd]; exact pushCells_keeps _ _ _ _ (Heap.get?_push_of_some _ z)
  have fd : ∀ x ∈ fp, FpOk (X.blk c Hc scope ce fp) [] Hc x := fun x hx => ⟨nfp x hx, (Id.ok.exf x hx).1, Id.ok.exfs x hx, .inl hx, fun y z ez => (Id.ok.exf x hx).2 y z ez, fun p hp => absurd (show p ∈ ([] : List (Addr × Obj)) ++ [] from hp) (by simp)⟩
  have b2 := body_last (s3 := c) (H3 := Hc) (scope := scope) (ce := ce) (fp0 := fp) (D := D) pe
  have b1 := body_src (elt := elt) (t0 := t0) (i0 := i0) (t1 := t1) (i1 := i1) (t2 := t2) (i2 := i2) (q0 := q0) (q1 := q1) (q2 := q2) (pos := pos) (sc := scope) (vs := vs2) (.inr rfl) hc (loop_last (turn3_2 elt t0 i0 t1 i1 t2 i2 q0 q1 q2 scope pos)) p2.1 p2.2.1 p2.2.2 (vi := ([] : List Nat)) (fun _ z => absurd z List.not_mem_nil) b2
  have b0 := body_src (elt := elt) (t0 := t0) (i0 := i0) (t1 := t1) (i1 := i1) (t2 := t2) (i2 := i2) (q0 := q0) (q1 := q1) (q2 := q2) (pos := pos) (sc := scope) (vs := vs1) (.inl rfl) hc (loop_src (turn3_1 elt t0 i0 t1 i1 t2 i2 q0 q1 q2 scope pos) (hs2 ce)) p1.1 p1.2.1 p1.2.2 hv2 b1
  have loop := inner_run (s3 := c) (H3 := Hc) (scope := scope) (ce := ce) (fp0 := fp) (vs := own.map (·.2)) hc (loop_src (acc := .ref D) (turn3_0 elt t0 i0 t1 i1 t2 i2 q0 q1 q2 scope pos) (hs1 ce)) p0.1 p0.2 hv1 b0 (pins := []) Id T sd fd red (R := compPost (model X.prog X.w) X.A X.xe use Qf (.ref D) c.heap.objs.size) fun H' s' I' nn => by
    have I7 : Inv X pins σ H' s' := Ic.call' (ch := fp) I'.os I'.base I'.hok I'.bare fun x hx => ⟨(fc x hx).1.2.2.2.1, (fc x hx).1.2.1, (fc x hx).1.2.2.2.2.1, (fc x hx).1.2.2.2.2.2⟩
    have nC : H' c.heap.objs.size = none := by
      have z : H' ce.locals = none := I'.free
      rw [cL] at z
      exact z
    obtain ⟨m, hn, _⟩ := I'.loc
    have hn : s'.heap.Ns ce.locals m := hn
    rw [cL] at hn
    exact hRR D c.heap.objs.size s' m H' I7 nn hn (Ic.fpOk (Nat.le_refl _) nC)
  exact codeAny_compStart_list loop (T.self X.A 0 _ _ _ sd loop)
theorem pe_lc3 (hc : X.calm = true) (hN : X.N.Nodup) (hi : PI X t0 i0 wi) (ok : BlkOk X.N X.env.scope scope own) (hv1 : ∀ i ∈ vs1, i ∈ own.map (·.2)) (hv2 : ∀ i ∈ vs2, i ∈ vs1)
    (hg : ∀ (s : Shared) (H : Hp) (C : Addr) (cl : List (Str × Addr)) (fp : List Addr), PG (X.blk s H scope (compEnvC scope cl C X.env) fp) t0 g ∧ PTs (X.blk s H scope (compEnvC scope cl C X.env) fp) q0 tt)
    (h1 : ∀ (s : Shared) (H : Hp) (C : Addr) (cl : List (Str × Addr)) (fp : List Addr), PI (X.blk s H scope (compEnvC scope cl C X.env) fp) t1 i1 wi1 ∧ PG (X.blk s H scope (compEnvC scope cl C X.env) fp) t1 g1 ∧ PTs (X.blk s H scope (compEnvC scope cl C X.env) fp) q1 tt1)
    (h2 : ∀ (s : Shared) (H : Hp) (C : Addr) (cl : List (Str × Addr)) (fp : List Addr), PI (X.blk s H scope (compEnvC scope cl C X.env) fp) t2 i2 wi2 ∧ PG (X.blk s H scope (compEnvC scope cl C X.env) fp) t2 g2 ∧ PTs (X.blk s H scope (compEnvC scope cl C X.env) fp) q2 tt2)
    (he : ∀ (s : Shared) (H : Hp) (C : Addr) (cl : List (Str × Addr)) (fp : List Addr), PE (X.blk s H scope (compEnvC scope cl C X.env) fp) elt te) (hs : ∀ x, foldedSetIterable i0 X.env x = pure x := by intro _; rfl) (hs1 : ∀ env x, foldedSetIterable i1 env x = pure x := by intro _ _; rfl) (hs2 : ∀ env x, foldedSetIterable i2 env x = pure x := by intro _ _; rfl) :
    PE X (c3 elt t0 i0 t1 i1 t2 i2 q0 q1 q2 scope pos) (tLc3 wi g tt (own.map (·.2)) fun D => tSrc wi1 g1 tt1 (tSrc wi2 g2 tt2 (tLast te D) vs2) vs1) := by
  refine ⟨fun pins s σ H Q I h => ?_⟩
  rw [eval_ListComp]
  refine lc3_core hc hN hi ok hv1 hv2 hg h1 h2 he hs hs1 hs2 I h fun D C s' m H' I' q hn ⟨f0, f1, f2, f3, f4, f5⟩ => ⟨m, hn, fun h'' sb => ?_⟩
  exact ⟨.ref D, H', I'.turned (t' := s'.toks) (fun x o hx z => (sb.2 x hx).trans z) f0 f1 f3 f4 f5, rfl, q⟩
theorem ps_setLc3 {i : Nat} {y : Str} {py spos : Pos} (hy : X.N[i]? = some y) (hyl : X.env.scope.names.lookup y = some .local) (hsw : swapsWith (c3 elt t0 i0 t1 i1 t2 i2 q0 q1 q2 scope pos) (some (.Name y py)) spos.line X.env = pure true) (hc : X.calm = true) (hN : X.N.Nodup) (hi : PI X t0 i0 wi) (ok : BlkOk X.N X.env.scope scope own) (hv1 : ∀ i ∈ vs1, i ∈ own.map (·.2)) (hv2 : ∀ i ∈ vs2, i ∈ vs1)
    (hg : ∀ (s : Shared) (H : Hp) (C : Addr) (cl : List (Str × Addr)) (fp : List Addr), PG (X.blk s H scope (compEnvC scope cl C X.env) fp) t0 g ∧ PTs (X.blk s H scope (compEnvC scope cl C X.env) fp) q0 tt)
    (h1 : ∀ (s : Shared) (H : Hp) (C : Addr) (cl : List (Str × Addr)) (fp : List Addr), PI (X.blk s H scope (compEnvC scope cl C X.env) fp) t1 i1 wi1 ∧ PG (X.blk s H scope (compEnvC scope cl C X.env) fp) t1 g1 ∧ PTs (X.blk s H scope (compEnvC scope cl C X.env) fp) q1 tt1)
    (h2 : ∀ (s : Shared) (H : Hp) (C : Addr) (cl : List (Str × Addr)) (fp : List Addr), PI (X.blk s H scope (compEnvC scope cl C X.env) fp) t2 i2 wi2 ∧ PG (X.blk s H scope (compEnvC scope cl C X.env) fp) t2 g2 ∧ PTs (X.blk s H scope (compEnvC scope cl C X.env) fp) q2 tt2)
    (he : ∀ (s : Shared) (H : Hp) (C : Addr) (cl : List (Str × Addr)) (fp : List Addr), PE (X.blk s H scope (compEnvC scope cl C X.env) fp) elt te) (hs : ∀ x, foldedSetIterable i0 X.env x = pure x := by intro _; rfl) (hs1 : ∀ env x, foldedSetIterable i1 env x = pure x := by intro _ _; rfl) (hs2 : ∀ env x, foldedSetIterable i2 env x = pure x := by intro _ _; rfl) :
    PS X (.Assign [.Name y py] (c3 elt t0 i0 t1 i1 t2 i2 q0 q1 q2 scope pos) spos) (tAsg (tLc3 wi g tt (own.map (·.2)) fun D => tSrc wi1 g1 tt1 (tSrc wi2 g2 tt2 (tLast te D) vs2) vs1) (gName i)) := by
  refine ⟨fun pins s σ H D I h => ?_⟩
  rw [exec_Assign_Name_used _ _ _ _ hsw]
  refine wpAny_bind (wpAny_standAt (wpAny_bind ?_))
  show wpAny _ X.A (do let _ ← comprehension (c3 elt t0 i0 t1 i1 t2 i2 q0 q1 q2 scope pos) scope X.env (firstIterPos [⟨t0, i0, q0, 0⟩, ⟨t1, i1, q1, 0⟩, ⟨t2, i2, q2, 0⟩] pos) (newList []) false (eval i0 X.env) (some (assign (.Name y py) X.env))) _ _ s
  have h : tLc3 wi g tt (own.map (·.2)) (fun D => tSrc wi1 g1 tt1 (tSrc wi2 g2 tt2 (tLast te D) vs2) vs1) σ H (fun x H1 => gName i x σ H1 D.nx) := h
  refine wpAny_bind (thn (lc3_core (Qf := fun _ s' => SP X pins D .next s') hc hN hi ok hv1 hv2 hg h1 h2 he hs hs1 hs2 I h fun L C s' m H' I' q hn ⟨f0, f1, f2, f3, f4, f5⟩ => ?_) fun _ s' hq => wpAny_pure (wpAny_pure hq))
  show wpAny _ _ (assign (.Name y py) X.env (.ref L)) _ _ _
  refine wpAny_assign_Name (store_ok2 (v := V.ref L) I' hN hy (.inl hyl) rfl (fun b2 I2 ⟨a, sb, ha⟩ => ?_) (.inr hyl))
  have ne : C ≠ a := ha.elim (fun z => by rw [z]; exact f1) fun z => fun e => f4 y a z e.symm
  exact ⟨m, hn.sameBut sb ne, fun _ sb3 => ⟨_, H', I2.turned (t' := b2.toks) (fun x o hx z => (sb3.2 x hx).trans z) f0 f1 f3 f4 f5, q⟩⟩
end
/-! ### over data -/
structure Held (K : PySem.W.Frag) (Z : Hp) (A : Addr) (F0 F H : Hp) (O : OS) (acc : List D) : Prop where
  ex : ∃ vacc, Rep K Z F H O ∧ Ext F0 F ∧ Apart Z F O A ∧ H A = some (.lst vacc) ∧ Iss K F acc vacc ∧ Sz vacc.length
theorem Held.more {K : PySem.W.Frag} {Z : Hp} {A : Addr} {F0 F1 F H : Hp} {O : OS} {acc : List D} (h : Held K Z A F1 F H O acc) (e : Ext F0 F1) : Held K Z A F0 F H O acc := by
  obtain ⟨v, a, b, c⟩ := h.ex
  exact ⟨⟨v, a, e.trans b, c⟩⟩
/-- a body's reading over data, at the list that is made at A -/
def BodyD (K : PySem.W.Frag) (Z : Hp) (A : Addr) (te : Env' → OS → List D → (List D → OS → Prop) → Prop) (rb : L2.St → Hp → (Hp → Prop) → Prop) : Prop :=
  ∀ (F : Hp) (σ : L2.St) (ρ : Env') (O : OS) (H : Hp) (acc : List D) (vacc : List V) (kd : List D → OS → Prop) (Nx : Hp → Prop), Z A = none → RepE K F σ ρ → Rep K (upd Z A (.lst vacc)) F H O → Iss K F acc vacc → Sz vacc.length → te ρ O acc kd →
    (∀ F' H' O' acc', Held K Z A F F' H' O' acc' → kd acc' O' → Nx H') → rb σ H Nx
theorem lift_in {K : PySem.W.Frag} {Z F1 H : Hp} {A : Addr} {tg : Tgt} {vs : List Nat} {tt : DTT} {te : Env' → OS → List D → (List D → OS → Prop) → Prop} {rb : L2.St → Hp → (Hp → Prop) → Prop} {its : List D} {keep : OS → Prop} {J : It} {σ : L2.St} {ρ : Env'} {O : OS} {acc : List D} {fin : List D → OS → Prop} {N : Hp → Prop}
    (hz : Z A = none) (hok : tg.ok vs) (re : RepE K F1 σ ρ) (ok : ItOk K F1 its keep J) (hb : BodyD K Z A te rb) (h0 : ∃ F2, Held K Z A F1 F2 H O acc) (q : innerQ tg vs tt te its keep ρ acc O fin) (hN : ∀ F' H' O' acc', Held K Z A F1 F' H' O' acc' → fin acc' O' → N H') :
    tIn (tg.g K) (exT K tt) rb vs J σ N H := by
  obtain ⟨W, w0, wk, step, fi⟩ := q
  obtain ⟨F2, h0⟩ := h0
  refine ⟨fun i m H => i + m = its.length ∧ ∃ acc O F', Held K Z A F1 F' H O acc ∧ W i acc O, ⟨its.length, by omega, acc, O, F2, h0, w0⟩, ?_⟩
  rintro i m H2 ⟨em, acc, O2, F2, hh, w2⟩
  obtain ⟨vacc, r2, e2, a2, h2, i2, z2⟩ := hh.ex
  have rh := r2.hide a2 h2
  have k2 := wk i acc O2 (by omega) w2
  by_cases hi : i < its.length
  · refine .inr ⟨ok.go _ i F2 H2 O2 e2 rh k2 hi, fun H' => ∃ acc O F', Held K Z A F1 F' H' O acc ∧ W (i + 1) acc O, fun H' h => ⟨m - 1, by omega, by omega, h⟩, fun x H3 y => ?_⟩
    obtain ⟨F3, r3, e3, i3⟩ := ok.yld _ i F2 H2 O2 x H3 its[i] e2 rh k2 (List.getElem?_eq_getElem hi) y
    refine Tgt.run hok (re.ext (e2.trans e3)) r3 i3 (step i its[i] acc O2 (List.getElem?_eq_getElem hi) w2) fun σ4 ρ4 hw re4 q4 => ⟨hw, (F3, upd Z A (.lst vacc)), _, ρ4, O2, F3, _, ⟨rfl, Ext.refl, re4, r3⟩, q4, fun b O5 F5 H5 r5 e5 q5 => ?_⟩
    cases b with
    | true => exact hb F5 σ4 ρ4 O5 H5 acc vacc _ _ hz (re4.ext e5) r5 (i2.ext (e3.trans e5)) z2 q5 fun F' H' O' acc' hd w' => ⟨acc', O', F', hd.more (e2.trans (e3.trans e5)), w'⟩
    | false =>
      obtain ⟨r7, a7, h7⟩ := r5.unhide hz
      have ee : Ext F2 F5 := e3.trans e5
      exact ⟨acc, O5, F5, ⟨⟨vacc, r7, e2.trans ee, a7, h7, i2.ext ee, z2⟩⟩, q5⟩
  · have e : i = its.length := by omega
    subst e
    exact .inl ⟨ok.stop _ F2 H2 O2 e2 rh k2, hN F2 H2 O2 acc hh (fi acc O2 w2)⟩
theorem bodyD_last {K : PySem.W.Frag} {Z : Hp} {A : Addr} {te : DTE} : BodyD K Z A (addQ te) (tLast (exE K te) A) := by
  intro F σ ρ O H acc vacc kd Nx hz re r i z q fin
  refine ⟨(F, upd Z A (.lst vacc)), _, ρ, O, F, _, ⟨rfl, Ext.refl, re, r⟩, q, fun dy O6 F6 H6 v r6 e6 i6 q6 => ?_⟩
  obtain ⟨r7, a7, h7⟩ := r6.unhide hz
  have lt : vacc.length < sizeLine := by rw [← i.len]; exact q6.1
  exact ⟨vacc, h7, lt, fin F6 _ O6 (acc ++ [dy]) ⟨⟨vacc ++ [v], r7.beside a7, e6, a7, upd_same, (i.ext e6).app (Iss.cons i6 Iss.nil), by rw [List.length_append]; exact lt⟩⟩ q6.2⟩
theorem bodyD_src {K : PySem.W.Frag} {Z : Hp} {A : Addr} {ti : DTI} {tg : Tgt} {vs : List Nat} {tt : DTT} {te : Env' → OS → List D → (List D → OS → Prop) → Prop} {rb : L2.St → Hp → (Hp → Prop) → Prop} (hok : tg.ok vs) (hb : BodyD K Z A te rb) :
    BodyD K Z A (fun ρ O acc kd => ti ρ O fun its keep O3 => innerQ tg vs tt te its keep ρ acc O3 kd) (tSrc (exI K ti) (tg.g K) (exT K tt) rb vs) := by
  intro F σ ρ O H acc vacc kd Nx hz re r i z q fin
  refine ⟨(F, upd Z A (.lst vacc)), _, ρ, O, F, _, ⟨rfl, Ext.refl, re, r⟩, q, fun its keep O6 F6 H6 J r6 e6 ok q6 => ?_⟩
  obtain ⟨r7, a7, h7⟩ := r6.unhide hz
  exact lift_in hz hok (re.ext e6) ok hb ⟨F6, ⟨vacc, r7, Ext.refl, a7, h7, i.ext e6, z⟩⟩ q6 fun F' H' O' acc' hd w' => fin F' H' O' acc' (hd.more e6) w'
def dLc3W (ti : DTI) (tg : Tgt) (tt : DTT) (ti1 : DTI) (tg1 : Tgt) (tt1 : DTT) (ti2 : DTI) (tg2 : Tgt) (tt2 : DTT) (vs vs1 vs2 : List Nat) (te : DTE) (fin : List D → OS → DQ → Prop) : DTE := fun ρ O Q => ti ρ O fun its keep O1 =>
  innerQ tg vs tt (fun ρ2 O2 acc k => ti1 ρ2 O2 fun its1 keep1 O3 => innerQ tg1 vs1 tt1 (fun ρ2 O2 acc k => ti2 ρ2 O2 fun its1 keep1 O3 => innerQ tg2 vs2 tt2 (addQ te) its1 keep1 ρ2 acc O3 k) its1 keep1 ρ2 acc O3 k) its keep ρ [] O1 fun acc O2 => fin acc O2 Q
section
variable {X : Cx} {F0 : Bs} {elt t0 i0 t1 i1 t2 i2 : Expr} {q0 q1 q2 : List Expr} {scope : Scope} {own : List (Str × Nat)} {pos : Pos} {ti ti1 ti2 : DTI} {tg tg1 tg2 : Tgt} {tt tt1 tt2 : DTT} {te : DTE} {fin : List D → OS → DQ → Prop} {vs1 vs2 : List Nat}
theorem lift_lc3 (hf : FinOk fin) (o0 : tg.ok (own.map (·.2))) (o1 : tg1.ok vs1) (o2 : tg2.ok vs2) {σ : L2.St} {H : Hp} {Q : VK} (h : liftE X.K F0 (dLc3W ti tg tt ti1 tg1 tt1 ti2 tg2 tt2 (own.map (·.2)) vs1 vs2 te fin) σ H Q) :
    tLc3 (liftI X.K F0 ti) (tg.g X.K) (exT X.K tt) (own.map (·.2)) (fun D => tSrc (exI X.K ti1) (tg1.g X.K) (exT X.K tt1) (tSrc (exI X.K ti2) (tg2.g X.K) (exT X.K tt2) (tLast (exE X.K te) D) vs2) vs1) σ H Q := by
  obtain ⟨Z, ρ, O, F, Qd, at_, h, cv⟩ := h
  refine ⟨_, ρ, O, F, _, at_, h, fun its keep O1 F1 H1 J r1 e1 ok q A hA => ?_⟩
  have a1 := r1.apart hA
  refine lift_in (Z := Z) (A := A) a1.z o0 (at_.env.ext e1) ok (bodyD_src o1 (bodyD_src o2 bodyD_last)) ⟨F1, ⟨[], r1.beside a1, Ext.refl, a1, upd_same, Iss.nil, Nat.zero_le _⟩⟩ q fun F' H' O' acc' hd w' => ?_
  obtain ⟨vacc, r2, e2, a2, h2, i2, z2⟩ := hd.ex
  exact hf _ _ _ _ _ _ _ _ _ _ r2 a2 h2 i2 z2 w' (cv.ext (e1.trans e2))
theorem de_lc3 (hf : FinOk fin) (hc : X.calm = true) (hN : X.N.Nodup) (hi : DI X F0 t0 i0 ti) (ok : BlkOk X.N X.env.scope scope own) (hv1 : ∀ i ∈ vs1, i ∈ own.map (·.2)) (hv2 : ∀ i ∈ vs2, i ∈ vs1) (o0 : tg.ok (own.map (·.2))) (o1 : tg1.ok vs1) (o2 : tg2.ok vs2)
    (hg : ∀ (s : Shared) (H : Hp) (C : Addr) (cl : List (Str × Addr)) (fp : List Addr) (B : Bs), PG (X.blk s H scope (compEnvC scope cl C X.env) fp) t0 (tg.g X.K) ∧ PTs (X.blk s H scope (compEnvC scope cl C X.env) fp) q0 (liftT X.K B tt))
    (h1 : ∀ (s : Shared) (H : Hp) (C : Addr) (cl : List (Str × Addr)) (fp : List Addr) (B : Bs), DI (X.blk s H scope (compEnvC scope cl C X.env) fp) B t1 i1 ti1 ∧ PG (X.blk s H scope (compEnvC scope cl C X.env) fp) t1 (tg1.g X.K) ∧ PTs (X.blk s H scope (compEnvC scope cl C X.env) fp) q1 (liftT X.K B tt1))
    (h2 : ∀ (s : Shared) (H : Hp) (C : Addr) (cl : List (Str × Addr)) (fp : List Addr) (B : Bs), DI (X.blk s H scope (compEnvC scope cl C X.env) fp) B t2 i2 ti2 ∧ PG (X.blk s H scope (compEnvC scope cl C X.env) fp) t2 (tg2.g X.K) ∧ PTs (X.blk s H scope (compEnvC scope cl C X.env) fp) q2 (liftT X.K B tt2))
    (he : ∀ (s : Shared) (H : Hp) (C : Addr) (cl : List (Str × Addr)) (fp : List Addr) (B : Bs), DE (X.blk s H scope (compEnvC scope cl C X.env) fp) B elt te) (hs : ∀ x, foldedSetIterable i0 X.env x = pure x := by intro _; rfl) (hs1 : ∀ env x, foldedSetIterable i1 env x = pure x := by intro _ _; rfl) (hs2 : ∀ env x, foldedSetIterable i2 env x = pure x := by intro _ _; rfl) :
    DE X F0 (c3 elt t0 i0 t1 i1 t2 i2 q0 q1 q2 scope pos) (dLc3W ti tg tt ti1 tg1 tt1 ti2 tg2 tt2 (own.map (·.2)) vs1 vs2 te fin) :=
  PE.imp (pe_lc3 hc hN hi ok hv1 hv2 (fun s H C cl fp => ⟨(hg s H C cl fp default).1, pts_ex fun B => (hg s H C cl fp B).2⟩) (fun s H C cl fp => ⟨pi_ex fun B => (h1 s H C cl fp B).1, (h1 s H C cl fp default).2.1, pts_ex fun B => (h1 s H C cl fp B).2.2⟩)
    (fun s H C cl fp => ⟨pi_ex fun B => (h2 s H C cl fp B).1, (h2 s H C cl fp default).2.1, pts_ex fun B => (h2 s H C cl fp B).2.2⟩) (fun s H C cl fp => pe_ex (he s H C cl fp)) hs hs1 hs2) fun σ H Q h => lift_lc3 hf o0 o1 o2 h
theorem ds_setLc3 {i : Nat} {y : Str} {py spos : Pos} (hf : FinOk fin) (hc : X.calm = true) (hN : X.N.Nodup) (hy : X.N[i]? = some y) (hyl : X.env.scope.names.lookup y = some .local) (hsw : swapsWith (c3 elt t0 i0 t1 i1 t2 i2 q0 q1 q2 scope pos) (some (.Name y py)) spos.line X.env = pure true) (hi : DI X F0 t0 i0 ti) (ok : BlkOk X.N X.env.scope scope own) (hv1 : ∀ i ∈ vs1, i ∈ own.map (·.2)) (hv2 : ∀ i ∈ vs2, i ∈ vs1) (o0 : tg.ok (own.map (·.2))) (o1 : tg1.ok vs1) (o2 : tg2.ok vs2)
    (hg : ∀ (s : Shared) (H : Hp) (C : Addr) (cl : List (Str × Addr)) (fp : List Addr) (B : Bs), PG (X.blk s H scope (compEnvC scope cl C X.env) fp) t0 (tg.g X.K) ∧ PTs (X.blk s H scope (compEnvC scope cl C X.env) fp) q0 (liftT X.K B tt))
    (h1 : ∀ (s : Shared) (H : Hp) (C : Addr) (cl : List (Str × Addr)) (fp : List Addr) (B : Bs), DI (X.blk s H scope (compEnvC scope cl C X.env) fp) B t1 i1 ti1 ∧ PG (X.blk s H scope (compEnvC scope cl C X.env) fp) t1 (tg1.g X.K) ∧ PTs (X.blk s H scope (compEnvC scope cl C X.env) fp) q1 (liftT X.K B tt1))
    (h2 : ∀ (s : Shared) (H : Hp) (C : Addr) (cl : List (Str × Addr)) (fp : List Addr) (B : Bs), DI (X.blk s H scope (compEnvC scope cl C X.env) fp) B t2 i2 ti2 ∧ PG (X.blk s H scope (compEnvC scope cl C X.env) fp) t2 (tg2.g X.K) ∧ PTs (X.blk s H scope (compEnvC scope cl C X.env) fp) q2 (liftT X.K B tt2))
    (he : ∀ (s : Shared) (H : Hp) (C : Addr) (cl : List (Str × Addr)) (fp : List Addr) (B : Bs), DE (X.blk s H scope (compEnvC scope cl C X.env) fp) B elt te) (hs : ∀ x, foldedSetIterable i0 X.env x = pure x := by intro _; rfl) (hs1 : ∀ env x, foldedSetIterable i1 env x = pure x := by intro _ _; rfl) (hs2 : ∀ env x, foldedSetIterable i2 env x = pure x := by intro _ _; rfl) :
    DSt X F0 (.Assign [.Name y py] (c3 elt t0 i0 t1 i1 t2 i2 q0 q1 q2 scope pos) spos) (sSet i (dLc3W ti tg tt ti1 tg1 tt1 ti2 tg2 tt2 (own.map (·.2)) vs1 vs2 te fin)) :=
  PS.imp (ps_setLc3 hy hyl hsw hc hN hi ok hv1 hv2 (fun s H C cl fp => ⟨(hg s H C cl fp default).1, pts_ex fun B => (hg s H C cl fp B).2⟩) (fun s H C cl fp => ⟨pi_ex fun B => (h1 s H C cl fp B).1, (h1 s H C cl fp default).2.1, pts_ex fun B => (h1 s H C cl fp B).2.2⟩)
    (fun s H C cl fp => ⟨pi_ex fun B => (h2 s H C cl fp B).1, (h2 s H C cl fp default).2.1, pts_ex fun B => (h2 s H C cl fp B).2.2⟩) (fun s H C cl fp => pe_ex (he s H C cl fp)) hs hs1 hs2) fun D σ H h => lift_lc3 hf o0 o1 o2 (lift_set h)
end
end DS

namespace DS
open PySem PySem.Spec PyProof.Rows L2
theorem flat_one {α β : Type} (g : α → β) (q : List α) : (q.flatMap fun b => [g b]) = q.map g := by
  induction q with
  | nil => rfl
  | cons x xs ih => rw [List.flatMap_cons, ih, List.map_cons]; rfl
/-- [x for a in l for b in m a for x in n b] -/
theorem lc3_pure {α β γ : Type} {ti ti1 ti2 : DTI} {tg tg1 tg2 : Tgt} {vs vs1 vs2 : List Nat} {te : DTE} {fin : List D → OS → DQ → Prop} {ρ : Env'} {O : OS} {Q : DQ} (l : List α) (e : α → D) (m : α → List β) (e1 : β → D) (n : β → List γ) (e2 : γ → D)
    (hti : ∀ R : DRI, (∀ keep : OS → Prop, keep O → R (l.map e) keep O) → ti ρ O R)
    (hz : (l.flatMap fun a => (m a).flatMap fun b => (n b).map e2).length ≤ sizeLine)
    (hd : ∀ a ∈ l, tg.to (e a) (blank ρ vs) fun ρ2 => (∀ R : DRI, (∀ keep : OS → Prop, keep O → R ((m a).map e1) keep O) → ti1 ρ2 O R) ∧ ∀ b ∈ m a, tg1.to (e1 b) (blank ρ2 vs1) fun ρ3 => (∀ R : DRI, (∀ keep : OS → Prop, keep O → R ((n b).map e2) keep O) → ti2 ρ3 O R) ∧
      ∀ c ∈ n b, tg2.to (e2 c) (blank ρ3 vs2) fun ρ4 => ∀ k : DQ, k (e2 c) O → te ρ4 O k)
    (hq : fin (l.flatMap fun a => (m a).flatMap fun b => (n b).map e2) O Q) : dLc3W ti tg tYesD ti1 tg1 tYesD ti2 tg2 tYesD vs vs1 vs2 te fin ρ O Q := by
  refine hti _ fun keep hk => inner_pure l e (fun a => (m a).flatMap fun b => (n b).map e2) hk (fun l1 a l2 el => ?_) (by simpa using hq)
  have hm : a ∈ l := by rw [el]; simp
  refine Tgt.to_mono (fun ρ2 z k hk2 => ?_) (hd a hm)
  refine w_ift (B := k ([] ++ l1.flatMap fun a => (m a).flatMap fun b => (n b).map e2) O) ?_
  refine z.1 _ fun keep1 hk1 => inner_pure (m a) e1 (fun b => (n b).map e2) hk1 (fun m1 b m2 em => ?_) hk2
  have hb : b ∈ m a := by rw [em]; simp
  refine Tgt.to_mono (fun ρ3 z3 k3 hk3 => ?_) (z.2 b hb)
  refine w_ift (B := k3 ([] ++ (l1.flatMap fun a => (m a).flatMap fun b => (n b).map e2) ++ m1.flatMap fun b => (n b).map e2) O) ?_
  refine z3.1 _ fun keep2 hk4 => inner_pure (n b) e2 (fun c => [e2 c]) hk4 (fun n1 c n2 en => ?_) (by rw [flat_one]; exact hk3)
  have hc : c ∈ n b := by rw [en]; simp
  refine Tgt.to_mono (fun ρ4 z4 k4 hk5 => ?_) (z3.2 c hc)
  refine w_ift (B := k4 ([] ++ (l1.flatMap fun a => (m a).flatMap fun b => (n b).map e2) ++ (m1.flatMap fun b => (n b).map e2) ++ n1.flatMap fun c => [e2 c]) O) ?_
  refine z4 _ ⟨?_, hk5⟩
  have h1 : (l.flatMap fun a => (m a).flatMap fun b => (n b).map e2).length = (l1.flatMap fun a => (m a).flatMap fun b => (n b).map e2).length + ((m1.flatMap fun b => (n b).map e2).length + ((n1.map e2).length + ((n2.map e2).length + 1)) + (m2.flatMap fun b => (n b).map e2).length) + (l2.flatMap fun a => (m a).flatMap fun b => (n b).map e2).length := by
    rw [el, List.flatMap_append, List.flatMap_cons, em, List.flatMap_append, List.flatMap_cons, en]
    simp only [List.length_append, List.map_append, List.map_cons, List.length_cons]
    omega
  rw [flat_one]
  simp only [List.nil_append, List.length_append]
  omega
end DS

namespace DS
open PySem PySem.Spec PyProof.Rows L2
/-! ### calls with keywords -/
abbrev DK (X : Cx) (F0 : Bs) (kws : List Keyword) (t : DTA) : Prop := PK X kws (liftA X.K F0 t)
section
variable {X : Cx} {F0 : Bs} {k n : Nat} {ks : List Str} {x : Str} {p pos kpos : Pos} {e : Expr} {es : List Expr} {kws : List Keyword} {t tk : DTA} {te : DTE} {W : DWX} {spd : DSp} {nm : Option Str}
theorem PK.imp {t t' : TA} (h : PK X kws t) (i : ∀ σ H Q, t' σ H Q → t σ H Q) : PK X kws t' := ⟨fun pos pins s σ H Q I w => h.run pos pins s σ H Q I (i σ H Q w)⟩
theorem dk_nil : DK X F0 [] aNil := PK.imp pk_nil fun σ H Q h => by
  obtain ⟨Z, ρ, O, F, Qd, at_, h, cv⟩ := h
  exact cv _ _ _ _ _ at_.rep Ext.refl Iss.nil h
theorem dk_cons (ha : DE X F0 e te) (hr : DK X F0 kws t) : DK X F0 (⟨nm, e, kpos⟩ :: kws) (aCons te t) := PK.imp (pk_cons ha hr) fun σ H Q h => by
  obtain ⟨Z, ρ, O, F, Qd, at_, h, cv⟩ := h
  refine ⟨_, ρ, O, F, _, at_, h, fun d O1 F1 H1 v r1 e1 i1 h1 => ?_⟩
  refine ⟨_, ρ, O1, F1, _, at_.step r1 e1, h1, fun ds O2 F2 H2 vs r2 e2 i2 h2 => ?_⟩
  exact cv _ _ _ _ _ r2 (e1.trans e2) (Iss.cons (i1.ext e2) i2) h2
def dCallW (n m : Nat) (sp : DSp) (W : DWX) (t tk : DTA) : DTE := fun ρ O Q => t ρ O fun ds O1 => tk ρ O1 fun es O2 => ds.length = n ∧ es.length = m ∧ sp (ds ++ es) O2 Q fun x O3 => W x ρ O3
theorem de_callW (F : DFnW X.prog X.w X.K X.mg X.base x k n ks spd) (hr : Room k X.A) (hp : PassD X F0 W) (hg : Gl X x) (ha : DA X F0 (e :: es) t) (hkw : DK X F0 kws tk) (hd : (x == ("__debug__" : Str)) = false := by decide)
    (hall : (backToKw pos (keywordEach kws X.env)).all (·.1.isSome) = true := by rfl) (hks : (backToKw pos (keywordEach kws X.env)).filterMap (·.1) = ks := by rfl)
    (he : starEach (e :: es) X.env = (false, eval e X.env) :: starEach es X.env := by rfl) (hpl : ((backTo pos (starEach (e :: es) X.env)).any (·.1) || (backToKw pos (keywordEach kws X.env)).any (·.1.isNone)) = false := by rfl) :
    DE X F0 (.Call (.Name x p) (e :: es) kws pos) (dCallW n ks.length spd W t tk) := by
  obtain ⟨f, hm, hk, FR⟩ := F.ex
  refine ⟨fun pins s σ H Q I h => ?_⟩
  obtain ⟨Z, ρ, O, F', Qd, at_, h, cv⟩ := h
  refine wpAny_Call_Name_kw (ld_glob I hg hm ?_ hd)
  refine PySem.W.callWith_KW (h₀ := X.base) I.ok.mod.kin hk hall (thn (ha.run pos pins s σ H (fun vs H1 => ∃ ds O1 F1, Rep X.K Z F1 H1 O1 ∧ Ext F' F1 ∧ Iss X.K F1 ds vs ∧ tk ρ O1 fun es O2 => ds.length = n ∧ es.length = ks.length ∧ spd (ds ++ es) O2 Qd fun x O3 => W x ρ O3) I
    ⟨Z, ρ, O, F', _, at_, h, fun ds O1 F1 H1 vs r1 e1 i1 q => ⟨ds, O1, F1, r1, e1, i1, q⟩⟩) fun us s1 ⟨vs, H1, I1, r, ds, O1, F1, r1, e1, i1, q⟩ => ?_) hpl he
  refine thn (hkw.run pos pins s1 σ H1 (fun zs H2 => ∃ es O2 F2, Rep X.K Z F2 H2 O2 ∧ Ext F1 F2 ∧ Iss X.K F2 es zs ∧ ds.length = n ∧ es.length = ks.length ∧ spd (ds ++ es) O2 Qd fun x O3 => W x ρ O3) I1
    ⟨Z, ρ, O1, F1, _, at_.step r1 e1, q, fun es O2 F2 H2 zs r2 e2 i2 q => ⟨es, O2, F2, r2, e2, i2, q⟩⟩) fun ws s2 ⟨zs, H2, I2, rz, es', O2, F2, r2, e2, i2, hl, hl2, q⟩ => ⟨I2.kIn, ?_⟩
  rw [hks]
  have hvl : vs.length = n := by rw [← i1.len]; exact hl
  have hzl : zs.length = ks.length := by rw [← i2.len]; exact hl2
  refine wpAny_call (codeAny_mono (FR X.A X.stack s2 H2 us ws vs zs Q (WE (liftW X.K F0 W) σ) hr I2.env0 r rz hvl hzl ⟨Z, ds ++ es', O2, F2, Qd, _, r2, (i1.ext e2).app i2, q, fun d O' F3 H' v r' e' i q => cv _ _ _ _ _ r' (e1.trans (e2.trans e')) i q, fun x O' F3 H' c d r' e' ix hx => ⟨_, ρ, O', F3, x, at_.step r' (e1.trans (e2.trans e')), ix, hx⟩⟩) fun r s' hq => ?_)
  cases r with
  | error e => exact hp σ pins H2 s2 e s' I2 hq
  | ok fl =>
    cases fl with
    | ret u => exact I2.after hq
    | next => exact False.elim hq
    | brk => exact False.elim hq
    | cont => exact False.elim hq
theorem w_callW {n m : Nat} {sp : DSp} {ρ : Env'} {O : OS} {Q : DQ} (q : t ρ O fun ds O1 => tk ρ O1 fun es O2 => ds.length = n ∧ es.length = m ∧ sp (ds ++ es) O2 Q fun x O3 => W x ρ O3) : dCallW n m sp W t tk ρ O Q := q
end
instance instKOk (cs : List Nat) : Decidable (KOk (.s cs)) := inferInstanceAs (Decidable (cs.length ≤ 16777216 ∧ ∀ c ∈ cs, c < 0x110000))
end DS

namespace K03
open PySem PySem.Spec PyProof.Rows L2 DS
local macro_rules | `(tactic| walk_at "s") => `(tactic| first
  | with_reducible refine w_isNN ?_
  | with_reducible refine w_notNN ?_
  | with_reducible refine w_vp ?_
  | with_reducible refine w_atP0 ?_
  | with_reducible refine w_atP1 ?_
  | with_reducible refine w_isNP ?_
  | with_reducible refine w_notNP ?_
  | with_reducible refine w_itP ?_
  | with_reducible refine w_gtpP ?_
  | with_reducible refine w_seq ?_
  | with_reducible refine w_lc ?_
  | with_reducible refine w_next ?_
  | with_reducible refine w_drop ?_
  | with_reducible refine w_ret ?_
  | with_reducible refine w_retN ?_
  | with_reducible refine w_if ?_
  | with_reducible refine w_asg ?_
  | with_reducible refine w_set ?_
  | with_reducible refine w_par ?_
  | with_reducible refine w_two ?_
  | with_reducible refine w_gnm ?_
  | with_reducible refine w_raise ?_
  | with_reducible refine w_break ?_
  | with_reducible refine w_cont ?_
  | with_reducible refine w_c ?_
  | with_reducible refine w_op ?_
  | with_reducible refine w_un ?_
  | with_reducible refine w_b ?_
  | with_reducible refine w_m ?_
  | with_reducible refine w_nil ?_
  | with_reducible refine w_cons ?_
  | with_reducible refine w_val ?_
  | with_reducible refine w_asB ?_
  | with_reducible refine w_and ?_
  | with_reducible refine w_or ?_
  | with_reducible refine w_not ?_
  | with_reducible refine w_andV ?_
  | with_reducible refine w_orV ?_
  | with_reducible refine w_notE ?_
  | with_reducible refine w_notV ?_
  | with_reducible refine w_ifE ?_
  | with_reducible refine w_ift ?_
  | with_reducible refine w_iff ?_
  | with_reducible refine w_tup ?_
  | with_reducible refine w_lst ?_
  | with_reducible refine w_lstM ?_
  | with_reducible refine w_sl ?_
  | with_reducible refine w_on ?_
  | with_reducible refine w_os ?_
  | with_reducible refine w_slS ?_
  | with_reducible refine w_slT ?_
  | with_reducible refine w_slL ?_
  | with_reducible refine w_call ?_
  | with_reducible refine w_frz ?_
  | with_reducible refine w_addI ?_
  | with_reducible refine w_sub ?_
  | with_reducible refine w_inc ?_
  | with_reducible refine w_neg ?_
  | with_reducible refine w_lt ?_
  | with_reducible refine w_le ?_
  | with_reducible refine w_gt ?_
  | with_reducible refine w_ge ?_
  | with_reducible refine w_eqI ?_
  | with_reducible refine w_neI ?_
  | with_reducible refine w_eqS ?_
  | with_reducible refine w_neS ?_
  | with_reducible refine w_lenS ?_
  | with_reducible refine w_lenT ?_
  | with_reducible refine w_lenL ?_
  | with_reducible refine w_lenF ?_
  | with_reducible refine w_lenD ?_
  | with_reducible refine w_int ?_
  | with_reducible refine w_intB ?_
  | with_reducible refine w_abs ?_
  | with_reducible refine w_max ?_
  | with_reducible refine w_min ?_
  | with_reducible refine w_tupL ?_
  | with_reducible refine w_tupT ?_
  | with_reducible refine w_listL ?_
  | with_reducible refine w_listT ?_
  | with_reducible refine w_listML ?_
  | with_reducible refine w_listMT ?_
  | with_reducible refine w_chain ?_
  | with_reducible refine w_vint ?_
  | with_reducible refine w_vbl ?_
  | with_reducible refine w_vnon ?_
  | with_reducible refine w_vstr ?_
  | with_reducible refine w_vtup ?_
  | with_reducible refine w_vlst ?_
  | with_reducible refine w_vfl ?_
  | with_reducible refine w_vdic ?_
  | with_reducible refine w_vty ?_
  | with_reducible refine w_vtm ?_
  | with_reducible refine w_vsn ?_
  | with_reducible refine w_vsc ?_
  | with_reducible refine w_starT ?_
  | with_reducible refine w_starL ?_
  | with_reducible refine w_inS ?_
  | with_reducible refine w_asD ?_
  | with_reducible refine w_asO ?_
  | with_reducible refine w_ifnt ?_
  | with_reducible refine w_ifnf ?_
  | with_reducible refine w_oi ?_
  | with_reducible refine w_it ?_
  | with_reducible refine w_itT ?_
  | with_reducible refine w_itL ?_
  | with_reducible refine w_itF ?_
  | with_reducible refine w_itS ?_
  | with_reducible refine w_rg1 ?_
  | with_reducible refine w_rg2 ?_
  | with_reducible refine w_star ?_
  | with_reducible refine w_for ?_
  | with_reducible refine w_joined ?_
  | with_reducible refine w_jsn ?_
  | with_reducible refine w_jsc ?_
  | with_reducible refine w_fmt ?_
  | with_reducible refine w_fmtS ?_
  | with_reducible refine w_setd ?_
  | with_reducible refine w_newK ?_
  | with_reducible refine w_lenSet ?_
  | with_reducible refine w_try ?_
  | with_reducible refine w_put ?_
  | ((with_reducible refine' w_var ?h ?_); (case h => exact rfl))
  | ((with_reducible refine' w_aug ?h ?_); (case h => exact rfl))
  | ((with_reducible refine' w_own ?h ?_); (case h => assumption))
  | ((with_reducible refine' w_frzO ?h ?_); (case h => assumption))
  | ((with_reducible refine' w_isN ?h ?_); (case h => exact rfl))
  | ((with_reducible refine' w_notN ?h ?_); (case h => exact rfl))
  | ((with_reducible refine' w_gtp ?h ?_); (case h => exact rfl))
  | ((with_reducible refine' w_mod ?h ?_); (case h => decide))
  | ((with_reducible refine' w_itO ?h ?_); (case h => assumption))
  | ((with_reducible refine' w_isiY ?h1 ?h2 ?h3 ?h4 ?_); (case h1 => exact rfl); (case h4 => decide); (case h2 => decide); (case h3 => (intro _ hh; cases hh)))
  | ((with_reducible refine' w_isiN ?h1 ?h2 ?h3 ?h4 ?_); (case h1 => exact rfl); (case h4 => decide); (case h2 => decide); (case h3 => (intro _ hh; cases hh)))
  | ((with_reducible refine And.intro ?h ?_); (case h => (show Sz _; first | decide | (simp only [List.length_cons, List.length_nil]; decide) | assumption)))
  | with_reducible refine w_eqEm ?_
  | with_reducible refine w_neEm ?_
  | with_reducible refine w_eqR ?_
  | with_reducible refine w_neR ?_
  | with_reducible refine w_notT ?_
  | with_reducible refine w_isT ?_
  | with_reducible refine w_isF ?_
  | with_reducible refine w_notF ?_
  | with_reducible refine w_rev ?_
  | with_reducible refine w_revL ?_
  | with_reducible refine w_revT ?_
  | with_reducible refine w_en ?_
  | with_reducible refine w_enL ?_
  | with_reducible refine w_zp ?_
  | with_reducible refine w_zpL ?_
  | with_reducible refine w_zpT ?_
  | with_reducible refine w_listDD ?_
  | ((with_reducible refine' w_gtl ?h ?_); (case h => exact rfl))
  | ((with_reducible refine' w_sfrz ?h1 ?h2 ?_); (case h1 => exact rfl); (case h2 => first | assumption | exact oput_same)))
local macro_rules | `(tactic| walk_at "vc") => `(tactic| repeat walk_at "s")
section
variable {P : Program} {w : World} {K : PySem.W.Frag} {mg : Str → Option Value} {base : Heap} {f : Addr} {fd : FuncData} {C : Str → Addr} {k : Nat}
def sp_renamed (n : Nat) : DSp := fun ds O Q E => ∃ (t : Trm) (ns : List (List Nat × List Nat)) (R : List (List Nat)) (p : Addr), ds = [tD t, .atm (.ref p)] ∧ O p = some (.dic (nmK ns)) ∧ trmOk n t ∧ R.length < 64 ∧ (∀ s ∈ subs t, s.nm ∈ R) ∧ nmsOk ns ∧
  (injT' (rnm ns) t → Q (tD (tren (rnm ns) t)) (odel O p)) ∧ (¬ injT' (rnm ns) t → E (.pl (.ref (C "InvalidOperation"))) (odel O p))
abbrev N_renamed : List Str := ["term", "names"]
theorem sc_renamed : FnScope N_renamed ["term", "names"] (defScope s_renamed) := ⟨rfl, rfl, rfl, by decide +kernel, rfl, by decide +kernel, by decide +kernel⟩
theorem okw_renamed_ (F : FnP K "renamed" s_renamed f fd) (gm : mg "renamed" = some (.ref f)) (g : Gs K mg C) {n : Nat} (c_renamed_by : DFn P w K mg base "renamed_by" k (sp_renamed_by (C := C) n)) : DFnW P w K mg base "renamed" (k + 1) 1 [] (kwSp 1 [] (sp_renamed (C := C) n)) := by
  refine okKw (ps := ["term"]) (pd := "names") (ks := []) (t := fun W => _) F sc_renamed gm (by decide) (by decide +kernel) (by decide) (fun _ _ _ _ _ _ us ws hl hw => match us, hl, ws, hw with | [_], _, [], _ => rfl) (fun cdv A outer s H E F0 W tk hr => (dss_one (ds_ret (de_call c_renamed_by hr (passD tk) rfl (da_cons (dv 0) (da_cons (de_frz (dv 1)) da_nil)))))) ?_
  rintro ds O Q E ⟨t, ns, R, p, rfl, hO, ht, hR, hRm, hns, q, qe⟩
  walk_at "vc"
  refine ⟨t, ns, R, rfl, ht, hR, hRm, hns, fun h => ?_, fun h => w_e (qe h)⟩
  exact w_q (q h)
theorem okw_renamed_f_b_a (F : FnP K "renamed" s_renamed f fd) (gm : mg "renamed" = some (.ref f)) (g : Gs K mg C) {n : Nat} (c_renamed_by : DFn P w K mg base "renamed_by" k (sp_renamed_by (C := C) n)) : DFnW P w K mg base "renamed" (k + 1) 1 ["f", "b", "a"] (kwSp 1 ["f", "b", "a"] (sp_renamed (C := C) n)) := by
  refine okKw (ps := ["term"]) (pd := "names") (ks := ["f", "b", "a"]) (t := fun W => _) F sc_renamed gm (by decide) (by decide +kernel) (by decide) (fun _ _ _ _ _ _ us ws hl hw => match us, hl, ws, hw with | [_], _, [_, _, _], _ => rfl) (fun cdv A outer s H E F0 W tk hr => (dss_one (ds_ret (de_call c_renamed_by hr (passD tk) rfl (da_cons (dv 0) (da_cons (de_frz (dv 1)) da_nil)))))) ?_
  rintro ds O Q E ⟨t, ns, R, p, rfl, hO, ht, hR, hRm, hns, q, qe⟩
  walk_at "vc"
  refine ⟨t, ns, R, rfl, ht, hR, hRm, hns, fun h => ?_, fun h => w_e (qe h)⟩
  exact w_q (q h)
theorem okw_renamed_a_b (F : FnP K "renamed" s_renamed f fd) (gm : mg "renamed" = some (.ref f)) (g : Gs K mg C) {n : Nat} (c_renamed_by : DFn P w K mg base "renamed_by" k (sp_renamed_by (C := C) n)) : DFnW P w K mg base "renamed" (k + 1) 1 ["a", "b"] (kwSp 1 ["a", "b"] (sp_renamed (C := C) n)) := by
  refine okKw (ps := ["term"]) (pd := "names") (ks := ["a", "b"]) (t := fun W => _) F sc_renamed gm (by decide) (by decide +kernel) (by decide) (fun _ _ _ _ _ _ us ws hl hw => match us, hl, ws, hw with | [_], _, [_, _], _ => rfl) (fun cdv A outer s H E F0 W tk hr => (dss_one (ds_ret (de_call c_renamed_by hr (passD tk) rfl (da_cons (dv 0) (da_cons (de_frz (dv 1)) da_nil)))))) ?_
  rintro ds O Q E ⟨t, ns, R, p, rfl, hO, ht, hR, hRm, hns, q, qe⟩
  walk_at "vc"
  refine ⟨t, ns, R, rfl, ht, hR, hRm, hns, fun h => ?_, fun h => w_e (qe h)⟩
  exact w_q (q h)
theorem okw_renamed_f_a (F : FnP K "renamed" s_renamed f fd) (gm : mg "renamed" = some (.ref f)) (g : Gs K mg C) {n : Nat} (c_renamed_by : DFn P w K mg base "renamed_by" k (sp_renamed_by (C := C) n)) : DFnW P w K mg base "renamed" (k + 1) 1 ["f", "a"] (kwSp 1 ["f", "a"] (sp_renamed (C := C) n)) := by
  refine okKw (ps := ["term"]) (pd := "names") (ks := ["f", "a"]) (t := fun W => _) F sc_renamed gm (by decide) (by decide +kernel) (by decide) (fun _ _ _ _ _ _ us ws hl hw => match us, hl, ws, hw with | [_], _, [_, _], _ => rfl) (fun cdv A outer s H E F0 W tk hr => (dss_one (ds_ret (de_call c_renamed_by hr (passD tk) rfl (da_cons (dv 0) (da_cons (de_frz (dv 1)) da_nil)))))) ?_
  rintro ds O Q E ⟨t, ns, R, p, rfl, hO, ht, hR, hRm, hns, q, qe⟩
  walk_at "vc"
  refine ⟨t, ns, R, rfl, ht, hR, hRm, hns, fun h => ?_, fun h => w_e (qe h)⟩
  exact w_q (q h)
/-! renamed_right -/
def sp_renamed_right (T : Addr) : DSp := fun ds O Q _ => ∃ (p : Addr) (t : Trm) (R : List (List Nat)) (a b c : Int) (n : Nat), ds = [.atm (.ref p), tD t] ∧ O T = some (.tab (lamQ "_law_renamed_right")) ∧ t.ok = true ∧ DS.isT t = true ∧ tdep t ≤ 4 ∧ (subs t).length ≤ 40 ∧ R.length < 64 ∧ (∀ s ∈ subs t, s.nm ∈ R) ∧ O p = some (dc a b c) ∧ DcOk n a b c ∧ n + 2000 ≤ 2 ^ 40 ∧
  ∀ a b c, DcOk (n + 1000) a b c → Q (.bl true) (oput O p (dc a b c))
theorem nm_rnm {ns : List (List Nat × List Nat)} (h : nmsOk ns) {n : List Nat} (hn : isNm n = true) : isNm (rnm ns n) = true := by
  rcases rnm_in ns n with e | e
  · rw [e]; exact hn
  · obtain ⟨p', hp', e⟩ := List.mem_map.mp e
    rw [← e]; exact (h.2.2 p' hp').2
theorem rnm_swap (x y z : List Nat) : rnm [([102], z), ([98], y), ([97], x)] = rnm [([97], x), ([98], y), ([102], z)] := by
  funext n
  simp only [rnm]
  by_cases h1 : [97] = n
  · subst h1; rfl
  · by_cases h2 : [98] = n
    · subst h2; rfl
    · rw [if_neg h1, if_neg h2, if_neg h2, if_neg h1]
abbrev N__law_renamed_right : List Str := ["dice", "term", "names", "few", "told", "kept", "due", "one", "two", "three", "name"]
theorem sc__law_renamed_right : FnScope N__law_renamed_right ["dice", "term"] (defScope s__law_renamed_right) := ⟨rfl, rfl, rfl, by decide +kernel, rfl, by decide +kernel, by decide +kernel⟩
theorem ok__law_renamed_right (F : FnP K "_law_renamed_right" s__law_renamed_right f fd) (g : Gs K mg C) {pn : He.Defn} (hf : f = He.fAd K pn) (TB : LamX.TabB base mg (He.cT K pn).1 (He.cT K pn).2) (c__law_due_names : DFn P w K mg base "_law_due_names" (k + 2) (sp_due_names 4)) (c__law_told : DFnH P w K mg base "_law_told" (sp_told C)) (c_renamed__f_b_a : DFnW P w K mg base "renamed" k 1 ["f", "b", "a"] (kwSp 1 ["f", "b", "a"] (sp_renamed (C := C) 5))) (c_renamed_by : DFn P w K mg base "renamed_by" k (sp_renamed_by (C := C) 5)) (c__law_renaming : DFn P w K mg base "_law_renaming" (k + 2) sp_renaming)  : FnOkG P w K mg base (CX P w) (k + 3) f fd ["dice", "term"] (liftF K (sp_renamed_right (He.cT K pn).2)) := by
  refine okDGL (t := fun W => _) pn hf F sc__law_renamed_right ?_ (fun cdv A outer s H E F0 W tk hr hgd hc => (dss_cons (ds_set (i := 2) sc__law_renamed_right.nd rfl (.inr rfl) (de_call c__law_renaming hr (passD tk) rfl (da_cons (dv 0) (da_cons (dv 1) da_nil)))) (dss_cons (ds_par (i := 5) (j := 6) rfl sc__law_renamed_right.nd rfl rfl (by decide) rfl rfl (da_cons (de_b (call_reprV hgd hr) l_repr rfl g.f_repr rfl (da_cons (dv 2) da_nil)) (da_cons (de_call c__law_due_names hr (passD tk) rfl (da_cons (dv 1) (da_cons (dv 2) da_nil))) da_nil)) rfl) (dss_cons (ds_if (dt_w (dw_or (dt_cmp (op_neV (un200 hr)) l_ne (de_lam (q0 := lamQ "_law_renamed_right") c__law_told TB hc hr (passD tk) rfl (show LamX.LamS (defScope s__law_renamed_right) _ from LamX.lamS_by (by decide +kernel)) rfl (fun _ _ _ _ _ => rfl) (fun _ _ _ _ _ _ _ _ _ tk hr => (de_call c_renamed_by hr (passD tk) rfl (da_cons (dv 1) (da_cons (dv 2) da_nil))))) (dv 6) rfl) (dw_or1 (dt_cmp op_ne l_neR (de_b (call_reprV hgd hr) l_repr rfl g.f_repr rfl (da_cons (dv 2) da_nil)) (dv 5) rfl)))) (dss_one (ds_ret de_bl)) dss_nil) (dss_cons (ds_asg (de_lc (own := [("name", 10)]) (tgt := .one 10) fin_data rfl sc__law_renamed_right.nd (di_any (de_tup (da_cons (de_str [97]) (da_cons (de_str [98]) (da_cons (de_str [102]) da_nil))))) (blkOk_by (N := N__law_renamed_right) (sc := defScope s__law_renamed_right) (by decide +kernel)) List.mem_cons_self (fun _ _ _ _ _ => pg_name (i := 10) sc__law_renamed_right.nd rfl (by first | exact Or.inl rfl | exact Or.inr rfl)) (fun _ _ _ _ _ _ => dts_nil) (fun _ _ _ _ _ _ => (de_get2 hr (dv 2) (dv 10) (dv 10)))) (dg_lst (is := [7, 8, 9]) rfl (pgs_cons (pg_name (i := 7) sc__law_renamed_right.nd rfl (.inr rfl)) (pgs_cons (pg_name (i := 8) sc__law_renamed_right.nd rfl (.inr rfl)) (pgs_cons (pg_name (i := 9) sc__law_renamed_right.nd rfl (.inr rfl)) pgs_nil))))) (dss_cons (ds_set (i := 3) sc__law_renamed_right.nd rfl (.inl rfl) (de_frz (de_disp (.cons (de_str [97]) (dv 7) (.cons (de_str [98]) (dv 8) (.cons (de_str [102]) (dv 9) .nil)))))) (dss_cons (ds_set (i := 4) sc__law_renamed_right.nd rfl (.inl rfl) (de_lam (q0 := lamQ "_law_renamed_right") c__law_told TB hc hr (passD tk) rfl (show LamX.LamS (defScope s__law_renamed_right) _ from LamX.lamS_by (by decide +kernel)) rfl (fun _ _ _ _ _ => rfl) (fun _ _ _ _ _ _ _ _ _ tk hr => (de_callW c_renamed__f_b_a hr (passD tk) rfl (da_cons (dv 1) da_nil) (dk_cons (dv 9) (dk_cons (dv 8) (dk_cons (dv 7) dk_nil))))))) (dss_one (ds_ret (de_cmp (op_eqV (un200 hr)) l_eq (dv 4) (de_call c__law_due_names hr (passD tk) rfl (da_cons (dv 1) (da_cons (dv 3) da_nil))) rfl)))))))))) ?_
  · rintro ds O Q E ⟨p, t, R, a, b, c, n, rfl, _⟩; rfl
  · rintro ds O Q E ⟨p, t, R, a, b, c, n, rfl, hT, hk, hl, hd, hz, hR, hRm, hO, hdc, hn, q⟩
    have hTp : (He.cT K pn).2 ≠ p := fun e => by rw [e, hO] at hT; cases hT
    have hn2 : n + 2000 ≤ 1099511627776 := hn
    have ht : trmOk 5 t := ⟨hk, hl, by omega, by omega⟩
    walk_at "vc"
    refine ⟨p, t, R, a, b, c, n, rfl, hk, hd, hz, hR, hRm, hO, hdc, hn, fun ns a b c hns hd2 => ?_⟩
    clear hdc
    have hT2 : oput O p (dc a b c) (He.cT K pn).2 = some (.tab (lamQ "_law_renamed_right")) := by rw [oput_ne hTp]; exact hT
    have q1 := q a b c hd2
    generalize oput O p (dc a b c) = O1 at *
    have hrep := rep_nmK hns.2.2 hns.2.1
    walk_at "vc"
    refine w_repr hrep ?_
    walk_at "vc"
    refine ⟨t, ns, R, rfl, hk, hd, by omega, hR, hRm, ?_⟩
    walk_at "vc"
    refine ⟨hT2, fun E' Q' hq he1 he2 => ?_⟩
    walk_at "vc"
    refine ⟨t, ns, R, rfl, ht, hR, hRm, hns, told_q hq he2 ?_⟩
    walk_at "vc"
    have hdd : ∀ r : List Nat → List Nat, dep (dueD r t) ≤ 150 := fun r => Nat.le_trans due_dep (by omega)
    refine w_vdue ?_
    refine w_vdue ?_
    refine w_neD due_plain due_plain (.inl (hdd _)) ?_
    rw [deq_refl _ due_plain]
    walk_at "vc"
    refine w_repr hrep ?_
    walk_at "vc"
    refine w_vany rfl ?_
    refine w_vany rfl ?_
    refine w_neR ?_
    rw [decide_eq_true rfl]
    walk_at "vc"
    refine lcq_map [[97], [98], [102]] D.str (fun a => .str (rnm ns a)) trivial (fun a _ kk hk => ?_) ?_
    · refine w_get2 ?_
      walk_at "vc"
      refine ⟨rfl, ?_⟩
      walk_at "vc"
      exact w_getN hk
    walk_at "vc"
    dsimp only [List.map]
    refine w_disp fun r hr => ?_
    refine w_pcons ?_
    walk_at "vc"
    refine w_pcons ?_
    walk_at "vc"
    refine w_pcons ?_
    walk_at "vc"
    refine w_pnil ⟨oput_same, nmK [([97], rnm ns [97]), ([98], rnm ns [98]), ([102], rnm ns [102])], rfl, Nat.le_of_ble_eq_true rfl, ?_⟩
    rw [oput_oput]
    refine w_frzO oput_same ?_
    rw [odel_oput hr, merge_nil (nmK_nodup (by show ([[97], [98], [102]] : List (List Nat)).Nodup; decide))]
    walk_at "vc"
    have nx := nm_rnm hns (n := [97]) (by decide)
    have ny := nm_rnm hns (n := [98]) (by decide)
    have nz := nm_rnm hns (n := [102]) (by decide)
    generalize rnm ns [97] = x1 at *
    generalize rnm ns [98] = y1 at *
    generalize rnm ns [102] = z1 at *
    have hfw : nmsOk [([102], z1), ([98], y1), ([97], x1)] := ⟨by show ([[102], [98], [97]] : List (List Nat)).Nodup; decide, Nat.le_of_ble_eq_true rfl, fun p hp => by
      simp only [List.mem_cons, List.not_mem_nil, or_false] at hp
      rcases hp with rfl | rfl | rfl
      · exact ⟨(show isNm [102] = true by decide), nz⟩
      · exact ⟨(show isNm [98] = true by decide), ny⟩
      · exact ⟨(show isNm [97] = true by decide), nx⟩⟩
    refine ⟨hT2, fun E' Q' hq he1 he2 => ?_⟩
    refine w_callW ?_
    walk_at "vc"
    refine ⟨rfl, rfl, [tD t], [.str z1, .str y1, .str x1], rfl, rfl, rfl, fun r hr => ?_⟩
    refine ⟨t, [([102], z1), ([98], y1), ([97], x1)], R, r, rfl, oput_same, ht, hR, hRm, hfw, ?_⟩
    rw [rnm_swap, odel_oput hr]
    refine told_q hq he2 ?_
    walk_at "vc"
    refine ⟨t, [([97], x1), ([98], y1), ([102], z1)], R, rfl, hk, hd, by omega, hR, hRm, ?_⟩
    refine w_vdue ?_
    refine w_vdue ?_
    refine w_eqD due_plain due_plain (.inl (hdd _)) ?_
    rw [deq_refl _ due_plain]
    exact w_q q1
end
end K03

namespace K03
open PySem PySem.Spec PyProof.Rows L2 DS
local macro_rules | `(tactic| walk_at "s") => `(tactic| first
  | with_reducible refine w_isNN ?_
  | with_reducible refine w_notNN ?_
  | with_reducible refine w_vp ?_
  | with_reducible refine w_atP0 ?_
  | with_reducible refine w_atP1 ?_
  | with_reducible refine w_isNP ?_
  | with_reducible refine w_notNP ?_
  | with_reducible refine w_itP ?_
  | with_reducible refine w_gtpP ?_
  | with_reducible refine w_seq ?_
  | with_reducible refine w_lc ?_
  | with_reducible refine w_next ?_
  | with_reducible refine w_drop ?_
  | with_reducible refine w_ret ?_
  | with_reducible refine w_retN ?_
  | with_reducible refine w_if ?_
  | with_reducible refine w_asg ?_
  | with_reducible refine w_set ?_
  | with_reducible refine w_par ?_
  | with_reducible refine w_two ?_
  | with_reducible refine w_gnm ?_
  | with_reducible refine w_raise ?_
  | with_reducible refine w_break ?_
  | with_reducible refine w_cont ?_
  | with_reducible refine w_c ?_
  | with_reducible refine w_op ?_
  | with_reducible refine w_un ?_
  | with_reducible refine w_b ?_
  | with_reducible refine w_m ?_
  | with_reducible refine w_nil ?_
  | with_reducible refine w_cons ?_
  | with_reducible refine w_val ?_
  | with_reducible refine w_asB ?_
  | with_reducible refine w_and ?_
  | with_reducible refine w_or ?_
  | with_reducible refine w_not ?_
  | with_reducible refine w_andV ?_
  | with_reducible refine w_orV ?_
  | with_reducible refine w_notE ?_
  | with_reducible refine w_notV ?_
  | with_reducible refine w_ifE ?_
  | with_reducible refine w_ift ?_
  | with_reducible refine w_iff ?_
  | with_reducible refine w_tup ?_
  | with_reducible refine w_lst ?_
  | with_reducible refine w_lstM ?_
  | with_reducible refine w_sl ?_
  | with_reducible refine w_on ?_
  | with_reducible refine w_os ?_
  | with_reducible refine w_slS ?_
  | with_reducible refine w_slT ?_
  | with_reducible refine w_slL ?_
  | with_reducible refine w_call ?_
  | with_reducible refine w_frz ?_
  | with_reducible refine w_addI ?_
  | with_reducible refine w_sub ?_
  | with_reducible refine w_inc ?_
  | with_reducible refine w_neg ?_
  | with_reducible refine w_lt ?_
  | with_reducible refine w_le ?_
  | with_reducible refine w_gt ?_
  | with_reducible refine w_ge ?_
  | with_reducible refine w_eqI ?_
  | with_reducible refine w_neI ?_
  | with_reducible refine w_eqS ?_
  | with_reducible refine w_neS ?_
  | with_reducible refine w_lenS ?_
  | with_reducible refine w_lenT ?_
  | with_reducible refine w_lenL ?_
  | with_reducible refine w_lenF ?_
  | with_reducible refine w_lenD ?_
  | with_reducible refine w_int ?_
  | with_reducible refine w_intB ?_
  | with_reducible refine w_abs ?_
  | with_reducible refine w_max ?_
  | with_reducible refine w_min ?_
  | with_reducible refine w_tupL ?_
  | with_reducible refine w_tupT ?_
  | with_reducible refine w_listL ?_
  | with_reducible refine w_listT ?_
  | with_reducible refine w_listML ?_
  | with_reducible refine w_listMT ?_
  | with_reducible refine w_chain ?_
  | with_reducible refine w_vint ?_
  | with_reducible refine w_vbl ?_
  | with_reducible refine w_vnon ?_
  | with_reducible refine w_vstr ?_
  | with_reducible refine w_vtup ?_
  | with_reducible refine w_vlst ?_
  | with_reducible refine w_vfl ?_
  | with_reducible refine w_vdic ?_
  | with_reducible refine w_vty ?_
  | with_reducible refine w_vtm ?_
  | with_reducible refine w_vsn ?_
  | with_reducible refine w_vsc ?_
  | with_reducible refine w_starT ?_
  | with_reducible refine w_starL ?_
  | with_reducible refine w_inS ?_
  | with_reducible refine w_asD ?_
  | with_reducible refine w_asO ?_
  | with_reducible refine w_ifnt ?_
  | with_reducible refine w_ifnf ?_
  | with_reducible refine w_oi ?_
  | with_reducible refine w_it ?_
  | with_reducible refine w_itT ?_
  | with_reducible refine w_itL ?_
  | with_reducible refine w_itF ?_
  | with_reducible refine w_itS ?_
  | with_reducible refine w_rg1 ?_
  | with_reducible refine w_rg2 ?_
  | with_reducible refine w_star ?_
  | with_reducible refine w_for ?_
  | with_reducible refine w_joined ?_
  | with_reducible refine w_jsn ?_
  | with_reducible refine w_jsc ?_
  | with_reducible refine w_fmt ?_
  | with_reducible refine w_fmtS ?_
  | with_reducible refine w_setd ?_
  | with_reducible refine w_newK ?_
  | with_reducible refine w_lenSet ?_
  | with_reducible refine w_try ?_
  | with_reducible refine w_put ?_
  | ((with_reducible refine' w_var ?h ?_); (case h => exact rfl))
  | ((with_reducible refine' w_aug ?h ?_); (case h => exact rfl))
  | ((with_reducible refine' w_own ?h ?_); (case h => assumption))
  | ((with_reducible refine' w_frzO ?h ?_); (case h => assumption))
  | ((with_reducible refine' w_isN ?h ?_); (case h => exact rfl))
  | ((with_reducible refine' w_notN ?h ?_); (case h => exact rfl))
  | ((with_reducible refine' w_gtp ?h ?_); (case h => exact rfl))
  | ((with_reducible refine' w_mod ?h ?_); (case h => decide))
  | ((with_reducible refine' w_itO ?h ?_); (case h => assumption))
  | ((with_reducible refine' w_isiY ?h1 ?h2 ?h3 ?h4 ?_); (case h1 => exact rfl); (case h4 => decide); (case h2 => decide); (case h3 => (intro _ hh; cases hh)))
  | ((with_reducible refine' w_isiN ?h1 ?h2 ?h3 ?h4 ?_); (case h1 => exact rfl); (case h4 => decide); (case h2 => decide); (case h3 => (intro _ hh; cases hh)))
  | ((with_reducible refine And.intro ?h ?_); (case h => (show Sz _; first | decide | (simp only [List.length_cons, List.length_nil]; decide) | assumption)))
  | with_reducible refine w_eqEm ?_
  | with_reducible refine w_neEm ?_
  | with_reducible refine w_eqR ?_
  | with_reducible refine w_neR ?_
  | with_reducible refine w_notT ?_
  | with_reducible refine w_isT ?_
  | with_reducible refine w_isF ?_
  | with_reducible refine w_notF ?_
  | with_reducible refine w_rev ?_
  | with_reducible refine w_revL ?_
  | with_reducible refine w_revT ?_
  | with_reducible refine w_en ?_
  | with_reducible refine w_enL ?_
  | with_reducible refine w_zp ?_
  | with_reducible refine w_zpL ?_
  | with_reducible refine w_zpT ?_
  | with_reducible refine w_listDD ?_
  | ((with_reducible refine' w_gtl ?h ?_); (case h => exact rfl))
  | ((with_reducible refine' w_sfrz ?h1 ?h2 ?_); (case h1 => exact rfl); (case h2 => first | assumption | exact oput_same)))
local macro_rules | `(tactic| walk_at "vc") => `(tactic| repeat walk_at "s")
section
variable {P : Program} {w : World} {K : PySem.W.Frag} {mg : Str → Option Value} {base : Heap} {f : Addr} {fd : FuncData} {C : Str → Addr} {k : Nat}
def chain : Nat → Trm
  | 0 => .mk [97] []
  | n + 1 => .mk [103] [chain n]
instance instInj (r : List Nat → List Nat) (t : Trm) : Decidable (injT' r t) := inferInstanceAs (Decidable (∀ a ∈ subs t, ∀ b ∈ subs t, r a.nm = r b.nm → a.nm = b.nm))
def okB (n : Nat) (t : Trm) : Bool := t.ok && DS.isT t && decide (tdep t < n) && decide ((subs t).length ≤ 40000)
theorem trm_of {n : Nat} {t : Trm} (h : okB n t = true) : trmOk n t := by
  unfold okB at h
  simp only [Bool.and_eq_true, decide_eq_true_eq] at h
  exact ⟨h.1.1.1, h.1.1.2, h.1.2, h.2⟩
def cA : Trm := .mk [97] []
def cB : Trm := .mk [98] []
def deepT : Trm := tput cA (chain 39) (chain 39)
def twiceT : Trm := .mk [103] [.mk [103] [cA]]
def oneT : Trm := .mk [102] [cA, .mk [102] [cA, cB]]
def doubleT : Trm := .mk [102] [cA, cA]
def wordsT : Trm := .mk [102] [.mk [116, 101, 114, 109] [], .mk [110, 97, 109, 101, 115] []]
def nmsB (ns : List (List Nat × List Nat)) : Bool := decide (ns.map (·.1)).Nodup && decide (ns.length ≤ 1000) && ns.all fun p => isNm p.1 && isNm p.2
theorem nms_of {ns : List (List Nat × List Nat)} (h : nmsB ns = true) : nmsOk ns := by
  unfold nmsB at h
  simp only [Bool.and_eq_true, decide_eq_true_eq, List.all_eq_true] at h
  exact ⟨h.1.1, h.1.2, h.2⟩
/-- replaced, of written terms -/
def rplB (t old new : Trm) : Bool := okB 81 t && okB 81 old && okB 81 new && okB 81 (tput old new t)
def rplB' (n : Nat) (t old new : Trm) : Bool := okB n t && okB n old && okB n new && okB n (tput old new t)
theorem rpl_of {n : Nat} {t old new : Trm} (h : rplB' n t old new = true) (hn : n ≤ 150) {O : OS} {Q : DQ} {E : DXQ} (q : Q (tD (tput old new t)) O) : sp_replaced (C := C) n [tD t, tD old, tD new] O Q E := by
  unfold rplB' at h
  simp only [Bool.and_eq_true] at h
  obtain ⟨⟨⟨h1, h2⟩, h3⟩, h4⟩ := h
  have h4 := trm_of h4
  exact ⟨t, old, new, rfl, trm_of h1, trm_of h2, trm_of h3, hn, h4.2.2.1, h4.2.2.2, fun _ => q, fun z => by rw [h4.2.1] at z; cases z⟩
def renB (n : Nat) (t : Trm) (ns : List (List Nat × List Nat)) : Bool := okB n t && nmsB ns && decide (injT' (rnm ns) t)
def nmsT (t : Trm) : List (List Nat) := ((subs t).map Trm.nm).eraseDups
def renF (t : Trm) : Bool := decide ((nmsT t).length < 64) && (subs t).all fun s => decide (s.nm ∈ nmsT t)
theorem ren_of {n : Nat} {t : Trm} {ns : List (List Nat × List Nat)} (h : renB n t ns = true) (h2 : renF t = true) {O : OS} {Q : DQ} {E : DXQ} (q : Q (tD (tren (rnm ns) t)) O) : sp_renamed_by (C := C) n [tD t, .dic (nmK ns)] O Q E := by
  unfold renB at h
  unfold renF at h2
  simp only [Bool.and_eq_true, decide_eq_true_eq, List.all_eq_true] at h h2
  exact ⟨t, ns, nmsT t, rfl, trm_of h.1.1, h2.1, h2.2, nms_of h.1.2, fun _ => q, fun z => absurd h.2 z⟩
theorem renK_of {n : Nat} {t : Trm} {ns : List (List Nat × List Nat)} (h : renB n t ns = true) (h2 : renF t = true) {p : Addr} {O : OS} {Q : DQ} {E : DXQ} (hO : O p = some (.dic (nmK ns))) (q : Q (tD (tren (rnm ns) t)) (odel O p)) : sp_renamed (C := C) n [tD t, .atm (.ref p)] O Q E := by
  unfold renB at h
  unfold renF at h2
  simp only [Bool.and_eq_true, decide_eq_true_eq, List.all_eq_true] at h h2
  exact ⟨t, ns, nmsT t, p, rfl, hO, trm_of h.1.1, h2.1, h2.2, nms_of h.1.2, fun _ => q, fun z => absurd h.2 z⟩
theorem b1 : rplB' 81 (chain 39) cA (chain 39) = true := by decide +kernel
theorem b2 : rplB' 81 deepT (chain 39) cA = true := by decide +kernel
theorem b3 : deq (tD (tput (chain 39) cA deepT)) (tD (chain 39)) = true := by decide +kernel
theorem b4 : renB 81 deepT [([103], [119])] = true := by decide +kernel
theorem b5 : renF deepT = true := by decide +kernel
theorem b6 : deq (tD (tren (rnm [([103], [119])]) deepT)) (tD deepT) = false := by decide +kernel
theorem b7 : dep (tD deepT) ≤ 150 := by decide +kernel
def wordsN : List (List Nat × List Nat) := [([116, 101, 114, 109], [111, 108, 100]), ([110, 97, 109, 101, 115], [110, 101, 119]), ([115, 101, 108, 102], [119])]
theorem b8 : renB 81 wordsT wordsN = true := by decide +kernel
theorem b9 : renF wordsT = true := by decide +kernel
theorem b10 : deq (tD (tren (rnm wordsN) wordsT)) (.tup [.str [102], .tup [.str [111, 108, 100]], .tup [.str [110, 101, 119]]]) = true := by decide +kernel
theorem b11 : rplB' 81 twiceT (.mk [103] [cA]) cA = true := by decide +kernel
theorem b12 : deq (tD (tput (.mk [103] [cA]) cA twiceT)) (.tup [.str [103], .tup [.str [97]]]) = true := by decide +kernel
theorem b13 : rplB' 81 oneT cA doubleT = true := by decide +kernel
def abN : List (List Nat × List Nat) := [([97], [98]), ([98], [97])]
def faN : List (List Nat × List Nat) := [([102], [97]), ([97], [102])]
theorem b14 : renB 81 oneT abN = true := by decide +kernel
theorem b15 : renF oneT = true := by decide +kernel
theorem b16 : renB 81 oneT faN = true := by decide +kernel
def dueL : D := .lst [.tup [.str [102], .tup [.str [102], .tup [.str [97]], .tup [.str [97]]], .tup [.str [102], .tup [.str [102], .tup [.str [97]], .tup [.str [97]]], .tup [.str [98]]]], .tup [.str [102], .tup [.str [98]], .tup [.str [102], .tup [.str [98]], .tup [.str [97]]]], .tup [.str [97], .tup [.str [102]], .tup [.str [97], .tup [.str [102]], .tup [.str [98]]]]]
def toldL : D := .lst [tD (tput cA doubleT oneT), tD (tren (rnm abN) oneT), tD (tren (rnm faN) oneT)]
theorem b17 : deq toldL dueL = true := by decide +kernel
theorem b18 : DS.plain toldL = true := by decide +kernel
def sp_law (T1 T2 : Addr) : DSp := fun ds O Q _ => ∃ ns : List Int, ds = [.fl (ns.map .int)] ∧ ns.length ≤ 63 ∧ O T1 = some (.tab (lamQ "_law_replaced_right")) ∧ O T2 = some (.tab (lamQ "_law_renamed_right")) ∧ Q (.bl true) O
abbrev N_law : List Str := ["script", "spot", "long", "turn", "deep", "words", "twice", "one", "double", "told", "due", "dice", "names", "term"]
theorem sc_law : FnScope N_law ["script"] (defScope s_law) := ⟨rfl, rfl, rfl, by decide +kernel, rfl, by decide +kernel, by decide +kernel⟩
theorem ok_law (F : FnP K "law" s_law f fd) (g : Gs K mg C) {T1 T2 : Addr} (c__law_dice : DFn P w K mg base "_law_dice" k sp_dice) (c__law_names : DFn P w K mg base "_law_names" k sp_names) (c__law_term : DFn P w K mg base "_law_term" k (sp_term 4)) (c__law_replaced_right : DFnG P w K mg base "_law_replaced_right" k (sp_replaced_right T1)) (c__law_renamed_right : DFnG P w K mg base "_law_renamed_right" k (sp_renamed_right T2)) (c_renamed__ : DFn P w K mg base "renamed" k (kwSp 1 [] (sp_renamed (C := C) 81))) (c_renamed_by : DFn P w K mg base "renamed_by" k (sp_renamed_by (C := C) 81)) (c_replaced : DFn P w K mg base "replaced" k (sp_replaced (C := C) 81)) (c_renamed__a_b : DFnW P w K mg base "renamed" k 1 ["a", "b"] (kwSp 1 ["a", "b"] (sp_renamed (C := C) 81))) (c_renamed__f_a : DFnW P w K mg base "renamed" k 1 ["f", "a"] (kwSp 1 ["f", "a"] (sp_renamed (C := C) 81)))  : FnOkG P w K mg base (CX P w) (k + 1) f fd ["script"] (liftF K (sp_law T1 T2)) := by
  refine okDG (t := fun W => _) F sc_law ?_ (fun cdv A outer s H E F0 W tk hr hgd => (dss_cons (ds_for (passes_of rfl) rfl (di_rg1 rfl g.f_range (da_cons (de_b (call_max2 rfl) l_max rfl g.f_max rfl (da_cons de_int (da_cons (de_b (call_min2 rfl) l_min rfl g.f_min rfl (da_cons de_int (da_cons (de_b call_lenW l_len rfl g.f_len rfl (da_cons (dv 0) da_nil)) da_nil))) da_nil))) da_nil)) (dg_name (i := 1) sc_law.nd rfl (.inl rfl)) (dss_cons (ds_set (i := 11) sc_law.nd rfl (.inl rfl) (de_call c__law_dice hr (passD tk) rfl (da_cons (dv 0) (da_cons (dv 1) da_nil)))) (dss_cons (ds_set (i := 12) sc_law.nd rfl (.inl rfl) (de_call c__law_names hr (passD tk) rfl (da_cons (dv 11) (da_cons de_int da_nil)))) (dss_one (ds_for (passes_of rfl) rfl (di_rg1 rfl g.f_range (da_cons de_int da_nil)) (dg_name (i := 3) sc_law.nd rfl (.inl rfl)) (dss_cons (ds_set (i := 13) sc_law.nd rfl (.inl rfl) (de_call c__law_term hr (passD tk) rfl (da_cons (dv 11) (da_cons (dv 12) (da_cons de_int da_nil))))) (dss_cons (ds_if (dt_not (dt_val (de_callG c__law_replaced_right hgd hr (passD tk) rfl (da_cons (dv 11) (da_cons (dv 12) (da_cons (dv 13) da_nil)))))) (dss_one (ds_ret de_bl)) dss_nil) (dss_cons (ds_if (dt_w (dw_or (dt_not (dt_val (de_callG c__law_renamed_right hgd hr (passD tk) rfl (da_cons (dv 11) (da_cons (dv 13) da_nil))))) (dw_or1 (dt_not (dt_val (de_callG c__law_renamed_right hgd hr (passD tk) rfl (da_cons (dv 11) (da_cons (dv 13) da_nil)))))))) (dss_one (ds_ret de_bl)) dss_nil) (dss_one (ds_if (dt_w (dw_or (dt_cmp (op_neV (un200 hr)) l_ne (de_call c_renamed__ hr (passD tk) rfl (da_cons (dv 13) da_nil)) (dv 13) rfl) (dw_or1 (dt_cmp (op_neV (un200 hr)) l_ne (de_call c_renamed_by hr (passD tk) rfl (da_cons (dv 13) (da_cons (de_frz (de_disp (.cons (de_str [107]) (de_str [107, 107]) (.cons (de_str [107, 107]) (de_str [107]) .nil)))) da_nil))) (dv 13) rfl)))) (dss_one (ds_ret de_bl)) dss_nil)))))))))) (dss_cons (ds_set (i := 2) sc_law.nd rfl (.inl rfl) (de_tup (da_cons (de_str [97]) da_nil))) (dss_cons (ds_for (passes_of rfl) rfl (di_rg1 rfl g.f_range (da_cons de_int da_nil)) (dg_name (i := 3) sc_law.nd rfl (.inl rfl)) (dss_one (ds_set (i := 2) sc_law.nd rfl (.inl rfl) (de_tup (da_cons (de_str [103]) (da_cons (dv 2) da_nil)))))) (dss_cons (ds_set (i := 4) sc_law.nd rfl (.inl rfl) (de_call c_replaced hr (passD tk) rfl (da_cons (dv 2) (da_cons (de_tup (da_cons (de_str [97]) da_nil)) (da_cons (dv 2) da_nil))))) (dss_cons (ds_if (dt_w (dw_or (dt_cmp (op_neV (un200 hr)) l_ne (de_call c_replaced hr (passD tk) rfl (da_cons (dv 4) (da_cons (dv 2) (da_cons (de_tup (da_cons (de_str [97]) da_nil)) da_nil)))) (dv 2) rfl) (dw_or1 (dt_cmp (op_eqV (un200 hr)) l_eq (de_call c_renamed_by hr (passD tk) rfl (da_cons (dv 4) (da_cons (de_frz (de_disp (.cons (de_str [103]) (de_str [119]) .nil))) da_nil))) (dv 4) rfl)))) (dss_one (ds_ret de_bl)) dss_nil) (dss_cons (ds_set (i := 5) sc_law.nd rfl (.inl rfl) (de_call c_renamed_by hr (passD tk) rfl (da_cons (de_tup (da_cons (de_str [102]) (da_cons (de_tup (da_cons (de_str [116, 101, 114, 109]) da_nil)) (da_cons (de_tup (da_cons (de_str [110, 97, 109, 101, 115]) da_nil)) da_nil)))) (da_cons (de_frz (de_disp (.cons (de_str [116, 101, 114, 109]) (de_str [111, 108, 100]) (.cons (de_str [110, 97, 109, 101, 115]) (de_str [110, 101, 119]) (.cons (de_str [115, 101, 108, 102]) (de_str [119]) .nil))))) da_nil)))) (dss_cons (ds_if (dt_cmp (op_neV (un200 hr)) l_ne (dv 5) (de_tup (da_cons (de_str [102]) (da_cons (de_tup (da_cons (de_str [111, 108, 100]) da_nil)) (da_cons (de_tup (da_cons (de_str [110, 101, 119]) da_nil)) da_nil)))) rfl) (dss_one (ds_ret de_bl)) dss_nil) (dss_cons (ds_set (i := 6) sc_law.nd rfl (.inl rfl) (de_tup (da_cons (de_str [103]) (da_cons (de_tup (da_cons (de_str [103]) (da_cons (de_tup (da_cons (de_str [97]) da_nil)) da_nil))) da_nil)))) (dss_cons (ds_if (dt_cmp (op_neV (un200 hr)) l_ne (de_call c_replaced hr (passD tk) rfl (da_cons (dv 6) (da_cons (de_tup (da_cons (de_str [103]) (da_cons (de_tup (da_cons (de_str [97]) da_nil)) da_nil))) (da_cons (de_tup (da_cons (de_str [97]) da_nil)) da_nil)))) (de_tup (da_cons (de_str [103]) (da_cons (de_tup (da_cons (de_str [97]) da_nil)) da_nil))) rfl) (dss_one (ds_ret de_bl)) dss_nil) (dss_cons (ds_set (i := 7) sc_law.nd rfl (.inl rfl) (de_tup (da_cons (de_str [102]) (da_cons (de_tup (da_cons (de_str [97]) da_nil)) (da_cons (de_tup (da_cons (de_str [102]) (da_cons (de_tup (da_cons (de_str [97]) da_nil)) (da_cons (de_tup (da_cons (de_str [98]) da_nil)) da_nil)))) da_nil))))) (dss_cons (ds_set (i := 8) sc_law.nd rfl (.inl rfl) (de_tup (da_cons (de_str [102]) (da_cons (de_tup (da_cons (de_str [97]) da_nil)) (da_cons (de_tup (da_cons (de_str [97]) da_nil)) da_nil))))) (dss_cons (ds_set (i := 9) sc_law.nd rfl (.inl rfl) (de_lstM (da_cons (de_call c_replaced hr (passD tk) rfl (da_cons (dv 7) (da_cons (de_tup (da_cons (de_str [97]) da_nil)) (da_cons (dv 8) da_nil)))) (da_cons (de_callW c_renamed__a_b hr (passD tk) rfl (da_cons (dv 7) da_nil) (dk_cons (de_str [98]) (dk_cons (de_str [97]) dk_nil))) da_nil)))) (dss_cons (ds_expr (de_m PySem.F.plainAttrs_list PySem.F.slot_list_append PySem.F.type_list_append mt_append lm_append (.inr rfl) (dv 9) (da_cons (de_callW c_renamed__f_a hr (passD tk) rfl (da_cons (dv 7) da_nil) (dk_cons (de_str [97]) (dk_cons (de_str [102]) dk_nil))) da_nil))) (dss_cons (ds_set (i := 10) sc_law.nd rfl (.inl rfl) (de_lst (da_cons (de_tup (da_cons (de_str [102]) (da_cons (dv 8) (da_cons (de_tup (da_cons (de_str [102]) (da_cons (dv 8) (da_cons (de_tup (da_cons (de_str [98]) da_nil)) da_nil)))) da_nil)))) (da_cons (de_tup (da_cons (de_str [102]) (da_cons (de_tup (da_cons (de_str [98]) da_nil)) (da_cons (de_tup (da_cons (de_str [102]) (da_cons (de_tup (da_cons (de_str [98]) da_nil)) (da_cons (de_tup (da_cons (de_str [97]) da_nil)) da_nil)))) da_nil)))) da_nil)))) (dss_one (ds_ret (de_cmp (op_eqV (un200 hr)) l_eq (dv 9) (de_op (op_add.or (op_add_str.or (op_catA.or op_cat))) l_add (dv 10) (de_lst (da_cons (de_tup (da_cons (de_str [97]) (da_cons (de_tup (da_cons (de_str [102]) da_nil)) (da_cons (de_tup (da_cons (de_str [97]) (da_cons (de_tup (da_cons (de_str [102]) da_nil)) (da_cons (de_tup (da_cons (de_str [98]) da_nil)) da_nil)))) da_nil)))) da_nil))) rfl)))))))))))))))))) ?_
  · rintro ds O Q E ⟨ns, rfl, _⟩; rfl
  · rintro ds O Q E ⟨ns, rfl, hns, hT1, hT2, q⟩
    walk_at "vc"
    rw [List.length_map]
    have hbd : ∀ l : Nat, (1 : Int) ≤ (if (if (l : Int) < 6 then (l : Int) else 6) > 1 then (if (l : Int) < 6 then (l : Int) else 6) else 1) ∧ (if (if (l : Int) < 6 then (l : Int) else 6) > 1 then (if (l : Int) < 6 then (l : Int) else 6) else 1) ≤ 6 := fun l => by
      split <;> split <;> omega
    have hb := hbd ns.length
    generalize (if (if (ns.length : Int) < 6 then (ns.length : Int) else 6) > 1 then (if (ns.length : Int) < 6 then (ns.length : Int) else 6) else 1) = top at hb ⊢
    refine w_rg1q (by omega) (by omega) ?_
    refine ⟨fun i ρ' O' => ∃ x1 x3 x11 x12 x13 : Option D, ρ' = [some (.fl (ns.map .int)), x1, none, x3, none, none, none, none, none, none, none, x11, x12, x13] ∧ Sub O O', ⟨none, none, none, none, none, rfl, Sub.refl⟩, fun _ _ _ _ _ => trivial, ?_, ?_⟩
    · rintro i d ρ' O' hi ⟨x1, x3, x11, x12, x13, rfl, hsub⟩
      obtain ⟨hi1, rfl⟩ := rgD_get hi
      walk_at "vc"
      refine ⟨ns, i, by rw [Int.zero_add], by omega, fun p a b c hp hd => ?_⟩
      walk_at "vc"
      refine ⟨p, 3, a, b, c, 0, rfl, by decide, by decide, oput_same, hd, by decide, fun rows a b c hr hrk hd2 => ?_⟩
      obtain ⟨hr8, hrk⟩ := hrk
      rw [oput_oput]
      clear hd
      walk_at "vc"
      refine w_rg1q (by decide) (by decide) ?_
      have hpS : ∀ (O3 : OS) (d : D), Sub O' O3 → Sub O' (oput O3 p d) := fun O3 d hs a u e => by
        have : a ≠ p := fun z => by rw [z, hp] at e; cases e
        rw [oput_ne this]; exact hs a u e
      have hTs : ∀ {a u}, O a = some u → a ≠ p := fun e z => by have := hsub _ _ e; rw [z, hp] at this; cases this
      refine ⟨fun j ρ' O2 => ∃ (x3 x13 : Option D) (a b c : Int), ρ' = [some (.fl (ns.map .int)), some (.int (0 + (i : Nat))), none, x3, none, none, none, none, none, none, none, some (.atm (.ref p)), some (.lst (rows.map rowD')), x13] ∧ O2 = oput O' p (dc a b c) ∧ DcOk (1000 + 5000 * j) a b c,
        ⟨_, _, a, b, c, rfl, rfl, dmono hd2 (by omega)⟩, fun _ _ _ _ _ => trivial, ?_, ?_⟩
      · rintro j d ρ' O2 hj ⟨x3, x13, a, b, c, rfl, rfl, hd3⟩
        obtain ⟨hj1, rfl⟩ := rgD_get hj
        have hj2 : j < 4 := hj1
        have hrl : rl 3 = 80 := rfl
        walk_at "vc"
        refine ⟨p, rows, 4, a, b, c, 1000 + 5000 * j, rfl, hr, by decide, oput_same, hd3, by show 1000 + 5000 * j + 80 ≤ 1099511627776; omega, fun t a b c ht1 ht2 ht3 hd4 => ?_⟩
        have ok := fits_ok hr t ht1
        have tl : DS.isT t = true := fits_told hr t ht1
        have ht4 : (subs t).length ≤ 40 := ht3
        have ht5 : tdep t ≤ 4 := ht2
        have hd4 : DcOk (1000 + 5000 * j + 80) a b c := hd4
        rw [oput_oput]
        have hT1' : ∀ d, oput O' p d T1 = some (.tab (lamQ "_law_replaced_right")) := fun d => by rw [oput_ne (hTs hT1)]; exact hsub _ _ hT1
        have hT2' : ∀ d, oput O' p d T2 = some (.tab (lamQ "_law_renamed_right")) := fun d => by rw [oput_ne (hTs hT2)]; exact hsub _ _ hT2
        have hRl : (rows.map (·.1)).length < 64 := by rw [List.length_map]; omega
        have hRm : ∀ s ∈ subs t, s.nm ∈ rows.map (·.1) := fun s hs => List.mem_map.mpr ⟨rowT s, fits_rows t ht1 s hs, rfl⟩
        have hT : trmOk 81 t := ⟨ok, tl, by omega, by omega⟩
        walk_at "vc"
        refine ⟨p, rows, t, a, b, c, 1000 + 5000 * j + 80, rfl, hT1' _, hr, hr8, ⟨ht1, ht5, ht4⟩, oput_same, hd4, by show 1000 + 5000 * j + 80 + 1000 ≤ 1099511627776; omega, fun a b c hd5 => ?_⟩
        rw [oput_oput]
        walk_at "vc"
        refine ⟨p, t, rows.map (·.1), a, b, c, 1000 + 5000 * j + 80 + 1000, rfl, hT2' _, ok, tl, ht5, ht4, hRl, hRm, oput_same, hd5, by show 1000 + 5000 * j + 80 + 1000 + 2000 ≤ 1099511627776; omega, fun a b c hd6 => ?_⟩
        rw [oput_oput]
        walk_at "vc"
        refine ⟨p, t, rows.map (·.1), a, b, c, 1000 + 5000 * j + 80 + 1000 + 1000, rfl, hT2' _, ok, tl, ht5, ht4, hRl, hRm, oput_same, hd6, by show 1000 + 5000 * j + 80 + 1000 + 1000 + 2000 ≤ 1099511627776; omega, fun a b c hd7 => ?_⟩
        rw [oput_oput]
        walk_at "vc"
        have inj0 : ∀ r : List Nat → List Nat, (∀ s ∈ subs t, r s.nm = s.nm) → injT' r t := fun r h a ha b hb e => by rw [h a ha, h b hb] at e; exact e
        have hkk : ∀ s ∈ subs t, rnm [([107], [107, 107]), ([107, 107], [107])] s.nm = s.nm := fun s hs => by
          obtain ⟨h1, h2⟩ := hrk _ (fits_rows t ht1 s hs)
          have h1 : s.nm ≠ [107] := h1
          have h2 : s.nm ≠ [107, 107] := h2
          simp only [rnm]
          rw [if_neg (Ne.symm h1), if_neg (Ne.symm h2)]
        refine ⟨[tD t], [], rfl, rfl, rfl, fun r hr0 => ⟨t, [], rows.map (·.1), r, rfl, oput_same, hT, hRl, hRm, nms_of (by decide), fun _ => ?_, fun z => absurd (inj0 _ fun _ _ => rfl) z⟩⟩
        rw [odel_oput hr0, tren_id t fun _ _ => rfl]
        walk_at "vc"
        refine w_neE ordT (by rw [dep_tD]; omega) ?_
        rw [deq_refl _ (plain_tD _)]
        walk_at "vc"
        refine w_disp fun r hr0 => ?_
        refine w_pcons ?_
        walk_at "vc"
        refine w_pcons ?_
        walk_at "vc"
        refine w_pnil ⟨oput_same, nmK [([107], [107, 107]), ([107, 107], [107])], rfl, Nat.le_of_ble_eq_true rfl, ?_⟩
        rw [oput_oput]
        refine w_frzO oput_same ?_
        rw [odel_oput hr0, merge_nil (nmK_nodup (by decide))]
        walk_at "vc"
        refine ⟨t, _, rows.map (·.1), rfl, hT, hRl, hRm, nms_of (by decide), fun _ => ?_, fun z => absurd (inj0 _ hkk) z⟩
        rw [tren_id t hkk]
        walk_at "vc"
        refine w_neE ordT (by rw [dep_tD]; omega) ?_
        rw [deq_refl _ (plain_tD _)]
        walk_at "vc"
        exact ⟨_, _, a, b, c, rfl, rfl, dmono hd7 (by omega)⟩
      · rintro ρ' O2 ⟨x3, x13, a, b, c, rfl, rfl, hd3⟩
        walk_at "vc"
        exact ⟨_, _, _, _, _, rfl, hsub.trans (hpS _ _ Sub.refl)⟩
    · rintro ρ' O' ⟨x1, x3, x11, x12, x13, rfl, hsub⟩
      walk_at "vc"
      refine w_rg1q (by decide) (by decide) ?_
      refine ⟨fun i ρ' O2 => ∃ x3 : Option D, ρ' = [some (.fl (ns.map .int)), x1, some (tD (chain i)), x3, none, none, none, none, none, none, none, x11, x12, x13] ∧ O2 = O', ⟨x3, rfl, rfl⟩, fun _ _ _ _ _ => trivial, ?_, ?_⟩
      · rintro i d ρ' O2 hi ⟨x3, rfl, rfl⟩
        walk_at "vc"
        exact ⟨some d, rfl, rfl⟩
      · rintro ρ' O2 ⟨x3, rfl, rfl⟩
        rw [rgD, List.length_map, List.length_range]
        rw [show Int.toNat 39 = 39 from rfl]
        walk_at "vc"
        refine rpl_of (t := chain 39) (old := cA) (new := chain 39) b1 (by decide) ?_
        rw [show tput cA (chain 39) (chain 39) = deepT from rfl]
        walk_at "vc"
        refine rpl_of (t := deepT) (old := chain 39) (new := cA) b2 (by decide) ?_
        walk_at "vc"
        refine w_neD (plain_tD _) (plain_tD _) (.inr (by decide +kernel)) ?_
        rw [b3]
        walk_at "vc"
        refine w_disp fun r hr0 => ?_
        refine w_pcons ?_
        walk_at "vc"
        refine w_pnil ⟨oput_same, nmK [([103], [119])], rfl, Nat.le_of_ble_eq_true rfl, ?_⟩
        rw [oput_oput]
        refine w_frzO oput_same ?_
        rw [odel_oput hr0, merge_nil (nmK_nodup (by decide))]
        walk_at "vc"
        refine ren_of b4 b5 ?_
        walk_at "vc"
        refine w_eqE ordT (by rw [dep_tD, tren_dep, ← dep_tD]; exact b7) ?_
        rw [b6]
        walk_at "vc"
        refine w_disp fun r hr0 => ?_
        refine w_pcons ?_
        walk_at "vc"
        refine w_pcons ?_
        walk_at "vc"
        refine w_pcons ?_
        walk_at "vc"
        refine w_pnil ⟨oput_same, nmK wordsN, rfl, Nat.le_of_ble_eq_true rfl, ?_⟩
        rw [oput_oput]
        refine w_frzO oput_same ?_
        rw [odel_oput hr0, merge_nil (nmK_nodup (by decide))]
        walk_at "vc"
        refine ren_of (t := wordsT) b8 b9 ?_
        walk_at "vc"
        refine w_neD (plain_tD _) rfl (.inr (Nat.le_of_ble_eq_true rfl)) ?_
        rw [b10]
        walk_at "vc"
        refine rpl_of (t := twiceT) (old := .mk [103] [cA]) (new := cA) b11 (by decide) ?_
        walk_at "vc"
        refine w_neD (plain_tD _) rfl (.inr (Nat.le_of_ble_eq_true rfl)) ?_
        rw [b12]
        walk_at "vc"
        refine rpl_of (t := oneT) (old := cA) (new := doubleT) b13 (by decide) ?_
        walk_at "vc"
        refine w_callW ?_
        walk_at "vc"
        refine ⟨rfl, rfl, [tD oneT], [.str [98], .str [97]], rfl, rfl, rfl, fun r hr0 => renK_of (t := oneT) (ns := abN) b14 b15 oput_same ?_⟩
        rw [odel_oput hr0]
        walk_at "vc"
        intro l hl0
        generalize hz1 : tD (tput cA doubleT oneT) = z1
        generalize hz2 : tD (tren (rnm abN) oneT) = z2
        have hl1 : oput O2 l (.lst [z1, z2]) l = some (.lst [z1, z2]) := oput_same
        walk_at "vc"
        refine ⟨rfl, ?_⟩
        walk_at "vc"
        refine w_callW ?_
        walk_at "vc"
        refine ⟨rfl, rfl, [tD oneT], [.str [97], .str [102]], rfl, rfl, rfl, fun r hr0 => renK_of (t := oneT) (ns := faN) b16 b15 oput_same ?_⟩
        rw [odel_oput hr0]
        walk_at "vc"
        refine w_app oput_same (by show 2 < 16777216; decide) ?_
        rw [oput_oput]
        walk_at "vc"
        refine w_addL (by show _ ≤ 16777216; decide) ?_
        refine w_own oput_same ?_
        walk_at "vc"
        subst hz1 hz2
        refine w_eqD (x := toldL) (y := dueL) b18 rfl (.inr (Nat.le_of_ble_eq_true rfl)) ?_
        rw [b17]
        exact w_qs (hsub.trans (Sub.new hl0)) q
end
end K03

namespace K03
open PySem PySem.Spec PyProof.Rows L2 DS
def fn : List He.DefD := [d_is_name, d_is_formed, d_subterms_in, d_place_rows, d_told_places, d_is_term, d_require_term, d_require_terms, d_ordered_dict, d_places_of, d_replaced_in, d_replaced, d_require_renaming, d_renaming_of, d_renamed_in, d_renamed, d_renamed_by, d__law_dice, d__law_roll, d__law_pick, d__law_mixed, d__law_below, d__law_names, d__law_term, d__law_put, d__law_is_like, d__law_other_names, d__law_told, d__law_due_names, d__law_replaced_right, d__law_renaming, d__law_renamed_right, d_law]
def fa : List He.Fa := [.glo "is_name", .glo "is_formed", .glo "subterms_in", .glo "place_rows", .glo "told_places", .glo "is_term", .glo "require_term", .glo "require_terms", .glo "ordered_dict", .glo "places_of", .glo "replaced_in", .glo "replaced", .glo "require_renaming", .glo "renaming_of", .glo "renamed_in", .glo "renamed", .glo "renamed_by", .glo "_law_dice", .glo "_law_roll", .glo "_law_pick", .glo "_law_mixed", .glo "_law_below", .glo "_law_names", .glo "_law_term", .glo "_law_put", .glo "_law_is_like", .glo "_law_other_names", .glo "_law_told", .glo "_law_due_names", .glo "_law_replaced_right", .glo "_law_renaming", .glo "_law_renamed_right", .glo "law", .free "abs", .free "all", .free "dict", .free "int", .free "isinstance", .free "len", .free "list", .free "max", .free "min", .free "range", .free "repr", .free "set", .free "sorted", .free "str", .free "tuple", .free "zip", .str "LETTERS" "abcdefghijklmnopqrstuvwxyz", .int "MAX_SIGNS" 8, .int "MAX_PLACES" 3, .glo "PartError", .exc "PartError", .glo "InvalidName", .exc "InvalidName", .glo "InvalidTerm", .exc "InvalidTerm", .glo "InvalidOperation", .exc "InvalidOperation", .exm "InvalidName" "InvalidOperation" false, .exm "InvalidName" "InvalidTerm" false, .exm "InvalidOperation" "InvalidOperation" true, .exm "InvalidOperation" "InvalidTerm" false, .exm "InvalidTerm" "InvalidOperation" false, .exm "InvalidTerm" "InvalidTerm" true]
abbrev R : PySem.W.OpenRow := PySem.W.OpenLaw.row PySem.Challenge.rw_shownpart_k03_terms_replaced_and_renamed
def tf : List He.Defn := [("_law_replaced_right", none), ("_law_renamed_right", none)]
def ex (K : PySem.W.Frag) : Bool := decide (tf.map fun p => (He.cT K p).2).Nodup
abbrev hk : PySem.W.Hook := He.hookX 4 fa fn [] tf ex
def ob (s : PySem.W.SharedT) : He.AlX := He.obsX 4 fa fn [] tf ex (HandSHeadRun.getT s)
theorem ob_eq (s : PySem.W.SharedT) : ob s = hk.obs s.abs := He.obsX_eq (HandSHeadRun.getT_eq s)
def loose0 : List PySem.Str := ["PartError", "InvalidName", "InvalidTerm", "InvalidOperation", "LETTERS", "MAX_SIGNS", "MAX_PLACES", "is_name", "is_formed", "subterms_in", "place_rows", "told_places"]
def loose1 : List PySem.Str := ["is_term", "require_term", "require_terms", "ordered_dict", "places_of", "replaced_in", "replaced", "require_renaming", "renaming_of", "renamed_in", "renamed", "renamed_by"]
def loose2 : List PySem.Str := ["_law_dice", "_law_roll", "_law_pick", "_law_mixed", "_law_below", "_law_names", "_law_term", "_law_put", "_law_is_like", "_law_other_names", "_law_told", "_law_due_names"]
def loose3 : List PySem.Str := ["_law_replaced_right", "_law_renaming", "_law_renamed_right"]
def loose : List PySem.Str := loose0 ++ loose1 ++ loose2 ++ loose3
abbrev qv : Program := PySem.W.view R.prog [42]
theorem run (w : World) : HandSHeadRun.RunEq R qv hk ob 4000 loose w := by
  intro os
  kernel_rfl

theorem facts {w : World} {K : PySem.W.Frag} {h : Heap} {mg : Str → Option Value} {f : Addr} (X : K.In h) (G : h.Ns mainGlobals mg) (hfa : mg ("law" : Str) = some (.ref f)) (cX : He.SaysX fa fn [] tf ex w h K) :
    DS.LawAtGT PySem.Challenge.rw_shownpart_k03_terms_replaced_and_renamed w K (CX PP w) 100 63 "script" mg f h := by
  have c := cX.t.d
  obtain ⟨fd_is_name, F_is_name⟩ := c.def_ 0 (d := d_is_name) rfl
  have g_is_name := He.glo_ok X G (c.fact 0 (f := .glo "is_name") rfl)
  have b_is_name := FunD.bindsN (ps := ["value"]) F_is_name fun _ _ _ _ _ _ us hl => match us, hl with | [_], _ => rfl
  obtain ⟨fd_is_formed, F_is_formed⟩ := c.def_ 1 (d := d_is_formed) rfl
  have g_is_formed := He.glo_ok X G (c.fact 1 (f := .glo "is_formed") rfl)
  have b_is_formed := FunD.bindsN (ps := ["value"]) F_is_formed fun _ _ _ _ _ _ us hl => match us, hl with | [_], _ => rfl
  obtain ⟨fd_subterms_in, F_subterms_in⟩ := c.def_ 2 (d := d_subterms_in) rfl
  have g_subterms_in := He.glo_ok X G (c.fact 2 (f := .glo "subterms_in") rfl)
  have b_subterms_in := FunD.bindsN (ps := ["term"]) F_subterms_in fun _ _ _ _ _ _ us hl => match us, hl with | [_], _ => rfl
  obtain ⟨fd_place_rows, F_place_rows⟩ := c.def_ 3 (d := d_place_rows) rfl
  have g_place_rows := He.glo_ok X G (c.fact 3 (f := .glo "place_rows") rfl)
  have b_place_rows := FunD.bindsN (ps := ["term"]) F_place_rows fun _ _ _ _ _ _ us hl => match us, hl with | [_], _ => rfl
  obtain ⟨fd_told_places, F_told_places⟩ := c.def_ 4 (d := d_told_places) rfl
  have g_told_places := He.glo_ok X G (c.fact 4 (f := .glo "told_places") rfl)
  have b_told_places := FunD.bindsN (ps := ["rows"]) F_told_places fun _ _ _ _ _ _ us hl => match us, hl with | [_], _ => rfl
  obtain ⟨fd_is_term, F_is_term⟩ := c.def_ 5 (d := d_is_term) rfl
  have g_is_term := He.glo_ok X G (c.fact 5 (f := .glo "is_term") rfl)
  have b_is_term := FunD.bindsN (ps := ["value"]) F_is_term fun _ _ _ _ _ _ us hl => match us, hl with | [_], _ => rfl
  obtain ⟨fd_require_term, F_require_term⟩ := c.def_ 6 (d := d_require_term) rfl
  have g_require_term := He.glo_ok X G (c.fact 6 (f := .glo "require_term") rfl)
  have b_require_term := FunD.bindsN (ps := ["term"]) F_require_term fun _ _ _ _ _ _ us hl => match us, hl with | [_], _ => rfl
  obtain ⟨fd_require_terms, F_require_terms⟩ := c.def_ 7 (d := d_require_terms) rfl
  have g_require_terms := He.glo_ok X G (c.fact 7 (f := .glo "require_terms") rfl)
  have b_require_terms := FunD.bindsN (ps := ["terms"]) F_require_terms fun _ _ _ _ _ _ us hl => match us, hl with | [_], _ => rfl
  obtain ⟨fd_ordered_dict, F_ordered_dict⟩ := c.def_ 8 (d := d_ordered_dict) rfl
  have g_ordered_dict := He.glo_ok X G (c.fact 8 (f := .glo "ordered_dict") rfl)
  have b_ordered_dict := FunD.bindsN (ps := ["found"]) F_ordered_dict fun _ _ _ _ _ _ us hl => match us, hl with | [_], _ => rfl
  obtain ⟨fd_places_of, F_places_of⟩ := c.def_ 9 (d := d_places_of) rfl
  have g_places_of := He.glo_ok X G (c.fact 9 (f := .glo "places_of") rfl)
  have b_places_of := FunD.bindsN (ps := ["term"]) F_places_of fun _ _ _ _ _ _ us hl => match us, hl with | [_], _ => rfl
  obtain ⟨fd_replaced_in, F_replaced_in⟩ := c.def_ 10 (d := d_replaced_in) rfl
  have g_replaced_in := He.glo_ok X G (c.fact 10 (f := .glo "replaced_in") rfl)
  have b_replaced_in := FunD.bindsN (ps := ["term", "old", "new"]) F_replaced_in fun _ _ _ _ _ _ us hl => match us, hl with | [_, _, _], _ => rfl
  obtain ⟨fd_replaced, F_replaced⟩ := c.def_ 11 (d := d_replaced) rfl
  have g_replaced := He.glo_ok X G (c.fact 11 (f := .glo "replaced") rfl)
  have b_replaced := FunD.bindsN (ps := ["term", "old", "new"]) F_replaced fun _ _ _ _ _ _ us hl => match us, hl with | [_, _, _], _ => rfl
  obtain ⟨fd_require_renaming, F_require_renaming⟩ := c.def_ 12 (d := d_require_renaming) rfl
  have g_require_renaming := He.glo_ok X G (c.fact 12 (f := .glo "require_renaming") rfl)
  have b_require_renaming := FunD.bindsN (ps := ["names"]) F_require_renaming fun _ _ _ _ _ _ us hl => match us, hl with | [_], _ => rfl
  obtain ⟨fd_renaming_of, F_renaming_of⟩ := c.def_ 13 (d := d_renaming_of) rfl
  have g_renaming_of := He.glo_ok X G (c.fact 13 (f := .glo "renaming_of") rfl)
  have b_renaming_of := FunD.bindsN (ps := ["present", "names"]) F_renaming_of fun _ _ _ _ _ _ us hl => match us, hl with | [_, _], _ => rfl
  obtain ⟨fd_renamed_in, F_renamed_in⟩ := c.def_ 14 (d := d_renamed_in) rfl
  have g_renamed_in := He.glo_ok X G (c.fact 14 (f := .glo "renamed_in") rfl)
  have b_renamed_in := FunD.bindsN (ps := ["term", "names"]) F_renamed_in fun _ _ _ _ _ _ us hl => match us, hl with | [_, _], _ => rfl
  obtain ⟨fd_renamed, F_renamed⟩ := c.def_ 15 (d := d_renamed) rfl
  have g_renamed := He.glo_ok X G (c.fact 15 (f := .glo "renamed") rfl)
  obtain ⟨fd_renamed_by, F_renamed_by⟩ := c.def_ 16 (d := d_renamed_by) rfl
  have g_renamed_by := He.glo_ok X G (c.fact 16 (f := .glo "renamed_by") rfl)
  have b_renamed_by := FunD.bindsN (ps := ["term", "names"]) F_renamed_by fun _ _ _ _ _ _ us hl => match us, hl with | [_, _], _ => rfl
  obtain ⟨fd__law_dice, F__law_dice⟩ := c.def_ 17 (d := d__law_dice) rfl
  have g__law_dice := He.glo_ok X G (c.fact 17 (f := .glo "_law_dice") rfl)
  have b__law_dice := FunD.bindsN (ps := ["script", "spot"]) F__law_dice fun _ _ _ _ _ _ us hl => match us, hl with | [_, _], _ => rfl
  obtain ⟨fd__law_roll, F__law_roll⟩ := c.def_ 18 (d := d__law_roll) rfl
  have g__law_roll := He.glo_ok X G (c.fact 18 (f := .glo "_law_roll") rfl)
  have b__law_roll := FunD.bindsN (ps := ["dice", "many"]) F__law_roll fun _ _ _ _ _ _ us hl => match us, hl with | [_, _], _ => rfl
  obtain ⟨fd__law_pick, F__law_pick⟩ := c.def_ 19 (d := d__law_pick) rfl
  have g__law_pick := He.glo_ok X G (c.fact 19 (f := .glo "_law_pick") rfl)
  have b__law_pick := FunD.bindsN (ps := ["dice", "items"]) F__law_pick fun _ _ _ _ _ _ us hl => match us, hl with | [_, _], _ => rfl
  obtain ⟨fd__law_mixed, F__law_mixed⟩ := c.def_ 20 (d := d__law_mixed) rfl
  have g__law_mixed := He.glo_ok X G (c.fact 20 (f := .glo "_law_mixed") rfl)
  have b__law_mixed := FunD.bindsN (ps := ["dice", "items"]) F__law_mixed fun _ _ _ _ _ _ us hl => match us, hl with | [_, _], _ => rfl
  obtain ⟨fd__law_below, F__law_below⟩ := c.def_ 21 (d := d__law_below) rfl
  have g__law_below := He.glo_ok X G (c.fact 21 (f := .glo "_law_below") rfl)
  have b__law_below := FunD.bindsN (ps := ["term"]) F__law_below fun _ _ _ _ _ _ us hl => match us, hl with | [_], _ => rfl
  obtain ⟨fd__law_names, F__law_names⟩ := c.def_ 22 (d := d__law_names) rfl
  have g__law_names := He.glo_ok X G (c.fact 22 (f := .glo "_law_names") rfl)
  have b__law_names := FunD.bindsN (ps := ["dice", "few"]) F__law_names fun _ _ _ _ _ _ us hl => match us, hl with | [_, _], _ => rfl
  obtain ⟨fd__law_term, F__law_term⟩ := c.def_ 23 (d := d__law_term) rfl
  have g__law_term := He.glo_ok X G (c.fact 23 (f := .glo "_law_term") rfl)
  have b__law_term := FunD.bindsN (ps := ["dice", "names", "deep"]) F__law_term fun _ _ _ _ _ _ us hl => match us, hl with | [_, _, _], _ => rfl
  obtain ⟨fd__law_put, F__law_put⟩ := c.def_ 24 (d := d__law_put) rfl
  have g__law_put := He.glo_ok X G (c.fact 24 (f := .glo "_law_put") rfl)
  have b__law_put := FunD.bindsN (ps := ["term", "old", "new"]) F__law_put fun _ _ _ _ _ _ us hl => match us, hl with | [_, _, _], _ => rfl
  obtain ⟨fd__law_is_like, F__law_is_like⟩ := c.def_ 25 (d := d__law_is_like) rfl
  have g__law_is_like := He.glo_ok X G (c.fact 25 (f := .glo "_law_is_like") rfl)
  have b__law_is_like := FunD.bindsN (ps := ["term"]) F__law_is_like fun _ _ _ _ _ _ us hl => match us, hl with | [_], _ => rfl
  obtain ⟨fd__law_other_names, F__law_other_names⟩ := c.def_ 26 (d := d__law_other_names) rfl
  have g__law_other_names := He.glo_ok X G (c.fact 26 (f := .glo "_law_other_names") rfl)
  have b__law_other_names := FunD.bindsN (ps := ["term", "names"]) F__law_other_names fun _ _ _ _ _ _ us hl => match us, hl with | [_, _], _ => rfl
  obtain ⟨fd__law_told, F__law_told⟩ := c.def_ 27 (d := d__law_told) rfl
  have g__law_told := He.glo_ok X G (c.fact 27 (f := .glo "_law_told") rfl)
  have b__law_told := FunD.bindsN (ps := ["call"]) F__law_told fun _ _ _ _ _ _ us hl => match us, hl with | [_], _ => rfl
  obtain ⟨fd__law_due_names, F__law_due_names⟩ := c.def_ 28 (d := d__law_due_names) rfl
  have g__law_due_names := He.glo_ok X G (c.fact 28 (f := .glo "_law_due_names") rfl)
  have b__law_due_names := FunD.bindsN (ps := ["term", "names"]) F__law_due_names fun _ _ _ _ _ _ us hl => match us, hl with | [_, _], _ => rfl
  obtain ⟨fd__law_replaced_right, F__law_replaced_right⟩ := c.def_ 29 (d := d__law_replaced_right) rfl
  have g__law_replaced_right := He.glo_ok X G (c.fact 29 (f := .glo "_law_replaced_right") rfl)
  have b__law_replaced_right := FunD.bindsN (ps := ["dice", "names", "term"]) F__law_replaced_right fun _ _ _ _ _ _ us hl => match us, hl with | [_, _, _], _ => rfl
  obtain ⟨fd__law_renaming, F__law_renaming⟩ := c.def_ 30 (d := d__law_renaming) rfl
  have g__law_renaming := He.glo_ok X G (c.fact 30 (f := .glo "_law_renaming") rfl)
  have b__law_renaming := FunD.bindsN (ps := ["dice", "term"]) F__law_renaming fun _ _ _ _ _ _ us hl => match us, hl with | [_, _], _ => rfl
  obtain ⟨fd__law_renamed_right, F__law_renamed_right⟩ := c.def_ 31 (d := d__law_renamed_right) rfl
  have g__law_renamed_right := He.glo_ok X G (c.fact 31 (f := .glo "_law_renamed_right") rfl)
  have b__law_renamed_right := FunD.bindsN (ps := ["dice", "term"]) F__law_renamed_right fun _ _ _ _ _ _ us hl => match us, hl with | [_, _], _ => rfl
  obtain ⟨fd_law, F_law⟩ := c.def_ 32 (d := d_law) rfl
  have g : Gs K mg (He.ga K) := { f_abs := He.free_ok X G (c.fact 33 (f := .free "abs") rfl), f_all := He.free_ok X G (c.fact 34 (f := .free "all") rfl), f_dict := He.free_ok X G (c.fact 35 (f := .free "dict") rfl), f_int := He.free_ok X G (c.fact 36 (f := .free "int") rfl), f_isinstance := He.free_ok X G (c.fact 37 (f := .free "isinstance") rfl), f_len := He.free_ok X G (c.fact 38 (f := .free "len") rfl), f_list := He.free_ok X G (c.fact 39 (f := .free "list") rfl), f_max := He.free_ok X G (c.fact 40 (f := .free "max") rfl), f_min := He.free_ok X G (c.fact 41 (f := .free "min") rfl), f_range := He.free_ok X G (c.fact 42 (f := .free "range") rfl), f_repr := He.free_ok X G (c.fact 43 (f := .free "repr") rfl), f_set := He.free_ok X G (c.fact 44 (f := .free "set") rfl), f_sorted := He.free_ok X G (c.fact 45 (f := .free "sorted") rfl), f_str := He.free_ok X G (c.fact 46 (f := .free "str") rfl), f_tuple := He.free_ok X G (c.fact 47 (f := .free "tuple") rfl), f_zip := He.free_ok X G (c.fact 48 (f := .free "zip") rfl), c_LETTERS := He.str_ok X G (c.fact 49 (f := .str "LETTERS" "abcdefghijklmnopqrstuvwxyz") rfl), c_MAX_SIGNS := He.int_ok X G (c.fact 50 (f := .int "MAX_SIGNS" 8) rfl), c_MAX_PLACES := He.int_ok X G (c.fact 51 (f := .int "MAX_PLACES" 3) rfl), e_PartError := ExcG.mk' X G (c.fact 52 (f := .glo "PartError") rfl) (c.fact 53 (f := .exc "PartError") rfl), e_InvalidName := ExcG.mk' X G (c.fact 54 (f := .glo "InvalidName") rfl) (c.fact 55 (f := .exc "InvalidName") rfl), e_InvalidTerm := ExcG.mk' X G (c.fact 56 (f := .glo "InvalidTerm") rfl) (c.fact 57 (f := .exc "InvalidTerm") rfl), e_InvalidOperation := ExcG.mk' X G (c.fact 58 (f := .glo "InvalidOperation") rfl) (c.fact 59 (f := .exc "InvalidOperation") rfl), x_InvalidName__InvalidOperation := He.exm_ok (c.fact 60 (f := .exm "InvalidName" "InvalidOperation" false) rfl), x_InvalidName__InvalidTerm := He.exm_ok (c.fact 61 (f := .exm "InvalidName" "InvalidTerm" false) rfl), m_InvalidOperation := He.exm_ok (c.fact 62 (f := .exm "InvalidOperation" "InvalidOperation" true) rfl), x_InvalidOperation__InvalidOperation := He.exm_ok (c.fact 62 (f := .exm "InvalidOperation" "InvalidOperation" true) rfl), x_InvalidOperation__InvalidTerm := He.exm_ok (c.fact 63 (f := .exm "InvalidOperation" "InvalidTerm" false) rfl), x_InvalidTerm__InvalidOperation := He.exm_ok (c.fact 64 (f := .exm "InvalidTerm" "InvalidOperation" false) rfl), m_InvalidTerm := He.exm_ok (c.fact 65 (f := .exm "InvalidTerm" "InvalidTerm" true) rfl), x_InvalidTerm__InvalidTerm := He.exm_ok (c.fact 65 (f := .exm "InvalidTerm" "InvalidTerm" true) rfl) }
  have e := hfa.symm.trans (He.glo_ok X G (c.fact 32 (f := .glo "law") rfl))
  cases e
  have bL := FunD.bindsA (ps := ["script"]) F_law fun _ _ _ _ _ _ us hl => match us, hl with | [_], _ => rfl
  have hnd : (tf.map fun p => (He.cT K p).2).Nodup := of_decide_eq_true cX.more
  refine ⟨fd_law, tf.map (He.cT K), liftF K (sp_law (He.cT K ("_law_replaced_right", none)).2 (He.cT K ("_law_renamed_right", none)).2), fun p hp => ?_, fun p hp => ?_, fun p hp => ?_, fun s u => bL s [u] rfl, fun H a ns hl hT hS => ?_, fun base KB _ TB => ?_⟩
  · obtain ⟨d, hd, rfl⟩ := List.mem_map.mp hp
    exact cX.empty d hd
  · obtain ⟨d, hd, rfl⟩ := List.mem_map.mp hp
    exact cX.out d hd
  · obtain ⟨d, hd, rfl⟩ := List.mem_map.mp hp
    exact PySem.W.codeHd_of_K X (cX.hd d hd)
  · have isN : ∀ (H : Hp) (l : List Int), Iss K H (l.map D.int) (l.map V.int) := fun H l => by
      induction l with
      | nil => exact Iss.nil
      | cons x l ih => exact Iss.cons Is.mkInt ih
    obtain ⟨ts, hts⟩ : ∃ ts : List (Addr × Str), ts = [((He.cT K ("_law_replaced_right", none)).2, lamQ "_law_replaced_right"), ((He.cT K ("_law_renamed_right", none)).2, lamQ "_law_renamed_right")] := ⟨_, rfl⟩
    have hq : ∀ p ∈ ts, H p.1 = some (.tbl #[]) := fun p hp => by
      rw [hts] at hp
      simp only [List.mem_cons, List.not_mem_nil, or_false] at hp
      rcases hp with rfl | rfl <;> exact hT _ (List.mem_map.mpr ⟨_, by simp [tf], rfl⟩)
    have hO : tabO ts (He.cT K ("_law_replaced_right", none)).2 = some (.tab (lamQ "_law_replaced_right")) ∧ tabO ts (He.cT K ("_law_renamed_right", none)).2 = some (.tab (lamQ "_law_renamed_right")) := by
      simp only [tf, List.map_cons, List.map_nil, List.nodup_cons, List.mem_cons, List.not_mem_nil, or_false, not_or, not_false_eq_true, List.nodup_nil, and_true] at hnd
      rw [hts]
      unfold tabO
      have h1 : ((He.cT K ("_law_renamed_right", none)).2 == (He.cT K ("_law_replaced_right", none)).2) = false := by simpa using fun e => hnd e.symm
      constructor
      · simp [List.lookup_cons]
      · rw [List.lookup_cons, h1]
        simp [List.lookup_cons]
    refine ⟨fun _ => none, [.fl (ns.map .int)], tabO ts, hideT ts H, fun d _ => d = .bl true, fun _ _ => False, start_tabs hq, Iss.cons (by simp only [Is]; exact ⟨a, _, rfl, hide_sql hq hS, isN _ ns, by show _ ≤ 16777216; rw [List.length_map]; omega⟩) Iss.nil, ⟨ns, rfl, hl, hO.1, hO.2, rfl⟩, fun d O' F' H' v _ _ i q => ?_, fun _ _ _ _ _ _ _ _ _ q => q⟩
    subst q
    simpa only [Is] using i
  have TB__law_replaced_right : LamX.TabB base mg (He.cT K ("_law_replaced_right", none)).1 (He.cT K ("_law_replaced_right", none)).2 := TB _ (List.mem_map.mpr ⟨_, by simp [tf], rfl⟩)
  have TB__law_renamed_right : LamX.TabB base mg (He.cT K ("_law_renamed_right", none)).1 (He.cT K ("_law_renamed_right", none)).2 := TB _ (List.mem_map.mpr ⟨_, by simp [tf], rfl⟩)
  
  · have is_name_ := mkDFn (P := PP) (w := w) (base := base) F_is_name g_is_name b_is_name (ok_is_name (k := 0) F_is_name g)
    have is_formed_ : ∀ n, DFn PP w K mg base "is_formed" (n + 1) (sp_is_formed n) := fun n => by
      induction n with
      | zero =>
        exact mkDFn0 F_is_formed g_is_formed fun ds O Q E z => by
          obtain ⟨d, _, _, z, _⟩ := z
          omega
      | succ n ih => exact mkDFn F_is_formed g_is_formed b_is_formed (ok_is_formed F_is_formed g ih (is_name_.mono (by omega)))
    have subterms_in_ : ∀ n, DFn PP w K mg base "subterms_in" n (sp_subterms_in n) := fun n => by
      induction n with
      | zero =>
        exact mkDFn0 F_subterms_in g_subterms_in fun ds O Q E z => by
          obtain ⟨⟨nm, ps⟩, _, z, _⟩ := z
          rw [tdep] at z; omega
      | succ n ih => exact mkDFn F_subterms_in g_subterms_in b_subterms_in (ok_subterms_in F_subterms_in g ih)
    have place_rows_ : ∀ n, DFn PP w K mg base "place_rows" (n + 1) (sp_place_rows n) := fun n => mkDFn F_place_rows g_place_rows b_place_rows (ok_place_rows F_place_rows g (subterms_in_ n))
    have told_places_ := mkDFn (P := PP) (w := w) (base := base) F_told_places g_told_places b_told_places (ok_told_places (k := 0) F_told_places g)
    have is_term_ : ∀ n, DFn PP w K mg base "is_term" (n + 2) (sp_is_term n) := fun n => mkDFn F_is_term g_is_term b_is_term (ok_is_term F_is_term g (is_formed_ n) (place_rows_ n) (told_places_.mono (by omega)))
    have require_term_ : ∀ n, DFn PP w K mg base "require_term" (n + 3) (sp_require_term (C := He.ga K) n) := fun n => mkDFn F_require_term g_require_term b_require_term (ok_require_term F_require_term g (is_term_ n))
    have require_terms_ : ∀ n, DFn PP w K mg base "require_terms" (n + 4) (sp_require_terms n) := fun n => mkDFn F_require_terms g_require_terms b_require_terms (ok_require_terms F_require_terms g (require_term_ n))
    have ordered_ := mkDFn (P := PP) (w := w) (base := base) F_ordered_dict g_ordered_dict b_ordered_dict (ok_ordered_dict (k := 0) F_ordered_dict g)
    have places_of_ : ∀ n, DFn PP w K mg base "places_of" (n + 4) (sp_places_of n) := fun n => mkDFn F_places_of g_places_of b_places_of (ok_places_of F_places_of g (require_term_ n) (ordered_.mono (by omega)) (told_places_.mono (by omega)) ((place_rows_ n).mono (by omega)))
    have replaced_in_ : ∀ n, DFn PP w K mg base "replaced_in" n (sp_put n) := fun n => by
      induction n with
      | zero =>
        exact mkDFn0 F_replaced_in g_replaced_in fun ds O Q E z => by
          obtain ⟨⟨nm, ps⟩, _, _, _, _, z, _⟩ := z
          rw [tdep] at z; omega
      | succ n ih => exact mkDFn F_replaced_in g_replaced_in b_replaced_in (ok_replaced_in F_replaced_in g ih)
    have replaced_ : ∀ n, DFn PP w K mg base "replaced" (n + 5) (sp_replaced (C := He.ga K) n) := fun n => mkDFn F_replaced g_replaced b_replaced (ok_replaced F_replaced g ((require_term_ n).mono (by omega)) ((replaced_in_ n).mono (by omega)) (require_terms_ n))
    have require_renaming_ : DFn PP w K mg base "require_renaming" 2 sp_require_renaming := mkDFn F_require_renaming g_require_renaming b_require_renaming (ok_require_renaming F_require_renaming g is_name_)
    have renaming_of_ : DFn PP w K mg base "renaming_of" 3 (sp_renaming_of (C := He.ga K)) := mkDFn F_renaming_of g_renaming_of b_renaming_of (ok_renaming_of F_renaming_of g require_renaming_)
    have renamed_in_ : ∀ n, DFn PP w K mg base "renamed_in" n (sp_renamed_in n) := fun n => by
      induction n with
      | zero =>
        exact mkDFn0 F_renamed_in g_renamed_in fun ds O Q E z => by
          obtain ⟨⟨nm, ps⟩, _, _, _, z, _⟩ := z
          rw [tdep] at z; omega
      | succ n ih => exact mkDFn F_renamed_in g_renamed_in b_renamed_in (ok_renamed_in F_renamed_in g ih)
    have renamed_by_ : ∀ n, DFn PP w K mg base "renamed_by" (n + 5) (sp_renamed_by (C := He.ga K) n) := fun n => mkDFn F_renamed_by g_renamed_by b_renamed_by (ok_renamed_by F_renamed_by g (places_of_ n) (renaming_of_.mono (by omega)) ((renamed_in_ n).mono (by omega)))
    have law_below_ : ∀ n, DFn PP w K mg base "_law_below" n (sp_below n) := fun n => by
      induction n with
      | zero =>
        exact mkDFn0 F__law_below g__law_below fun ds O Q E z => by
          obtain ⟨⟨nm, ps⟩, _, z, _⟩ := z
          rw [tdep] at z; omega
      | succ n ih => exact mkDFn F__law_below g__law_below b__law_below (ok__law_below F__law_below g ih)
    have dice_ := mkDFn (P := PP) (w := w) (base := base) F__law_dice g__law_dice b__law_dice (ok__law_dice (k := 0) F__law_dice g)
    have roll_ := mkDFn (P := PP) (w := w) (base := base) F__law_roll g__law_roll b__law_roll (ok__law_roll (k := 0) F__law_roll g)
    have pick_ : DFn PP w K mg base "_law_pick" 2 sp_pick := mkDFn F__law_pick g__law_pick b__law_pick (ok__law_pick F__law_pick g roll_)
    have mixed_ : DFn PP w K mg base "_law_mixed" 2 sp_mixed := mkDFn F__law_mixed g__law_mixed b__law_mixed (ok__law_mixed F__law_mixed g roll_)
    have names_ : DFn PP w K mg base "_law_names" 3 sp_names := mkDFn F__law_names g__law_names b__law_names (ok__law_names F__law_names g mixed_ (roll_.mono (by decide)) pick_)
    have term_ : ∀ n, DFn PP w K mg base "_law_term" (n + 2) (sp_term n) := fun n => by
      induction n with
      | zero => exact mkDFn0 F__law_term g__law_term fun ds O Q E z => z
      | succ n ih => exact mkDFn F__law_term g__law_term b__law_term (ok__law_term F__law_term g ih (pick_.mono (by omega)) (roll_.mono (by omega)))
    have put_ : ∀ n, DFn PP w K mg base "_law_put" n (sp_put n) := fun n => by
      induction n with
      | zero =>
        exact mkDFn0 F__law_put g__law_put fun ds O Q E z => by
          obtain ⟨⟨nm, ps⟩, _, _, _, _, z, _⟩ := z
          rw [tdep] at z; omega
      | succ n ih => exact mkDFn F__law_put g__law_put b__law_put (ok__law_put F__law_put g ih)
    have is_like_ : ∀ n, DFn PP w K mg base "_law_is_like" (n + 1) (sp_is_like n) := fun n => mkDFn F__law_is_like g__law_is_like b__law_is_like (ok__law_is_like F__law_is_like g (law_below_ n))
    have other_ : ∀ n, DFn PP w K mg base "_law_other_names" n (sp_renamed_in n) := fun n => by
      induction n with
      | zero =>
        exact mkDFn0 F__law_other_names g__law_other_names fun ds O Q E z => by
          obtain ⟨⟨nm, ps⟩, _, _, _, z, _⟩ := z
          rw [tdep] at z; omega
      | succ n ih => exact mkDFn F__law_other_names g__law_other_names b__law_other_names (ok__law_other_names F__law_other_names g ih)
    have told_ := ok__law_told (P := PP) (w := w) (base := base) (C := He.ga K) F__law_told g__law_told b__law_told g
    have due_ : ∀ n, DFn PP w K mg base "_law_due_names" (n + 1) (sp_due_names n) := fun n => mkDFn F__law_due_names g__law_due_names b__law_due_names (ok__law_due_names F__law_due_names g (other_ n) (law_below_ n))
    have renaming_ : DFn PP w K mg base "_law_renaming" 5 sp_renaming := mkDFn F__law_renaming g__law_renaming b__law_renaming (ok__law_renaming F__law_renaming g (pick_.mono (by decide)) (roll_.mono (by decide)) (mixed_.mono (by decide)) (law_below_ 4))
    have rr_ : DFnG PP w K mg base "_law_replaced_right" 18 (sp_replaced_right (He.cT K ("_law_replaced_right", none)).2) := mkDFnG F__law_replaced_right g__law_replaced_right b__law_replaced_right (ok__law_replaced_right (k := 15) F__law_replaced_right g rfl TB__law_replaced_right ((is_like_ 10).mono (by decide)) told_ (replaced_ 10) ((put_ 4).mono (by decide)) (pick_.mono (by decide)) ((term_ 4).mono (by decide)) ((law_below_ 4).mono (by decide)))
    have kfba_ : DFnW PP w K mg base "renamed" 11 1 ["f", "b", "a"] (kwSp 1 ["f", "b", "a"] (sp_renamed (C := He.ga K) 5)) := okw_renamed_f_b_a F_renamed g_renamed g (renamed_by_ 5)
    have nr_ : DFnG PP w K mg base "_law_renamed_right" 14 (sp_renamed_right (He.cT K ("_law_renamed_right", none)).2) := mkDFnG F__law_renamed_right g__law_renamed_right b__law_renamed_right (ok__law_renamed_right (k := 11) F__law_renamed_right g rfl TB__law_renamed_right ((due_ 4).mono (by decide)) told_ kfba_ ((renamed_by_ 5).mono (by decide)) (renaming_.mono (by decide)))
    have k0_ : DFn PP w K mg base "renamed" 87 (kwSp 1 [] (sp_renamed (C := He.ga K) 81)) := (okw_renamed_ F_renamed g_renamed g (renamed_by_ 81)).plain
    have kab_ : DFnW PP w K mg base "renamed" 87 1 ["a", "b"] (kwSp 1 ["a", "b"] (sp_renamed (C := He.ga K) 81)) := okw_renamed_a_b F_renamed g_renamed g (renamed_by_ 81)
    have kfa_ : DFnW PP w K mg base "renamed" 87 1 ["f", "a"] (kwSp 1 ["f", "a"] (sp_renamed (C := He.ga K) 81)) := okw_renamed_f_a F_renamed g_renamed g (renamed_by_ 81)
    exact ok_law (k := 99) F_law g (dice_.mono (by decide)) (names_.mono (by decide)) ((term_ 4).mono (by decide)) (rr_.mono (by decide)) (nr_.mono (by decide)) (k0_.mono (by decide)) ((renamed_by_ 81).mono (by decide)) ((replaced_ 81).mono (by decide)) (kab_.mono (by decide)) (kfa_.mono (by decide))
end K03
open PySem PySem.W PySem.Calls PyProof.Rows
theorem PySem.Challenge.cw_shownpart_k03_terms_replaced_and_renamed_holds : PySem.Challenge.rw_shownpart_k03_terms_replaced_and_renamed.Holds := by
  w_on; o_law
  refine HandSHeadRun.head_any (r := OpenLaw.row PySem.Challenge.rw_shownpart_k03_terms_replaced_and_renamed) (q := view (OpenLaw.row PySem.Challenge.rw_shownpart_k03_terms_replaced_and_renamed).prog [42]) (H := K03.hk) (ob := K03.ob) (M := 4000) (loose := K03.loose) (d := HandSHeadRun.topDef (OpenLaw.row PySem.Challenge.rw_shownpart_k03_terms_replaced_and_renamed).prog 42) (kwd := []) K03.ob_eq
    (by kernel_rfl) (fun s => by kernel_rfl) K03.run (by kernel_rfl) (by kernel_rfl) (by kernel_rfl) (by rfl) (by first | assumption | decide +kernel) (by decide +kernel) ⟨rfl, rfl, rfl, rfl, rfl, by decide +kernel⟩ ?hw ?hc
  case hw => w_witness2
  case hc =>
    refine DS.walk_ofGT (l := PySem.Challenge.rw_shownpart_k03_terms_replaced_and_renamed) (n := 63) (k := 100) (x := "script") (CX := fun w => L2.CX K03.PP w) rfl (by decide) (by kernel_rfl) ⟨rfl, by decide, by decide⟩ ?F ?X
    case F =>
      intro w mg fa h Y G hmg0
      obtain ⟨K, KX, c⟩ := Y
      have hmg : mg ("law" : PySem.Str) = some (.ref fa) := by
        have e : (HandSHeadRun.topDef (OpenLaw.row PySem.Challenge.rw_shownpart_k03_terms_replaced_and_renamed).prog 42).name = ("law" : PySem.Str) := by kernel_rfl
        rw [← e]
        exact hmg0
      exact ⟨K, KX, K03.facts KX G hmg c⟩
    case X =>
      rintro w H s e s' ⟨_, _, _, _, _, _, _, _, _, _, _, _, z⟩
      exact z

