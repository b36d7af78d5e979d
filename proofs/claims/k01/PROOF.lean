import PyProof.Rows.All
import HandS.ForMost
import HandS.ForExc
import HandS.RaiseOp
import HandS.Flow
import HandS.IsInst
import HandS.Zip
import HandS.Deep
import HandS.TupAny
import HandS.ExcInit
import HandS.ExcSuper
import HandS.Star
import HandS.Defaults
import PyProof.ReprRoads
import HandS.Wide
import HandS.TupLe
import HandS.Style
import KE.KExcSuper
import KE.KExcIs
import HandS.ExcValue
import HandS.HeadWalk
import HandS.ExcField
import HandS.ExcOwn
import HandS.Words
import HandS.WordsExc
import HandS.EndBits
import PySem.Challenge.RW_plainstops_k01_errors_each_of_its_own

section
set_option Elab.async false
set_option linter.all false
set_option maxRecDepth 100000
/-! DL: a layer of data over the hand layer. D: what a value is, seen whole (tuples, lists that nobody changes any more, dicts); a store says what the things hold that may still change. -/
namespace DL
open PySem PySem.Spec PyProof.Rows L2

inductive D where
  | non | bl (b : Bool) | int (i : Int) | str (x : Str) | ty (n : String) | ref (a : Addr)
  | tup (ds : List D) | lst (ds : List D) | dic (kvs : List (Key × D)) | scr (ds : List D) | exn (C : Addr) (fs : List (Str × D))
  deriving Inhabited

/-- what an open thing holds -/
inductive OO where
  | lst (ds : List D) | dic (kvs : List (Key × D)) | ins (C dx : Addr) (fs : List (Str × D)) | raw (o : HO)
abbrev Sto := Addr → Option OO
abbrev dm (ω : Sto) : Addr → Prop := fun a => ω a ≠ none

def cTup (K : PySem.W.Frag) (a : Addr) (xs : List V) : Prop :=
  ∃ (o : Obj) (its : Array Value) (n : Nat), K.lookup a = some o ∧ o.cls = .type "tuple" ∧ o.data = .seq its n ∧ its.size ≤ sizeLine ∧ Vals xs its.toList
def cLst (K : PySem.W.Frag) (a : Addr) (xs : List V) : Prop :=
  ∃ (o : Obj) (its : Array Value) (n : Nat), K.lookup a = some o ∧ o.cls = .type "list" ∧ o.dict = none ∧ o.data = .seq its n ∧ its.size ≤ sizeLine ∧ Vals xs its.toList
/-- read, and closed -/
def Rc (H : Hp) (O : Addr → Prop) (a : Addr) (u : HO) : Prop := Rd H a u ∧ ¬ O a

section
variable (K : PySem.W.Frag) (H : Hp) (O : Addr → Prop)
mutual
def Rep : D → V → Prop
  | .non, v => v = .non
  | .bl b, v => v = .bl b
  | .int i, v => v = .int i
  | .str x, v => v = .str x
  | .ty n, v => v = .ty n
  | .ref a, v => v = .ref a
  | .tup ds, v => ∃ a xs, v = .ref a ∧ (Rc H O a (.tup xs) ∨ cTup K a xs) ∧ Reps ds xs
  | .lst ds, v => ∃ a xs, v = .ref a ∧ (H a = some (.lst xs) ∧ ¬ O a) ∧ Reps ds xs
  | .scr ds, v => ∃ a xs, v = .ref a ∧ (Rc H O a (.lst xs) ∨ cLst K a xs) ∧ Reps ds xs
  | .dic kvs, v => ∃ a ws, v = .ref a ∧ Rc H O a (.dK ws) ∧ RepK kvs ws
  | .exn C fs, v => ∃ a, v = .ref a ∧ ((fs = [] ∧ H a = some (exo a C none) ∧ ¬ O a) ∨ ∃ dx ws, (H a = some (exo a C (some dx)) ∧ ¬ O a) ∧ (H dx = some (exd dx ws) ∧ ¬ O dx) ∧ RepF fs ws)
def Reps : List D → List V → Prop
  | [], vs => vs = []
  | d :: ds, vs => ∃ v r, vs = v :: r ∧ Rep d v ∧ Reps ds r
def RepK : List (Key × D) → List (Key × V) → Prop
  | [], vs => vs = []
  | (k, d) :: ds, vs => ∃ v r, vs = (k, v) :: r ∧ Rep d v ∧ RepK ds r
def RepF : List (Str × D) → List (Str × V) → Prop
  | [], vs => vs = []
  | (k, d) :: ds, vs => ∃ v r, vs = (k, v) :: r ∧ Rep d v ∧ RepF ds r
end
end

/-- from one heap to the next: what is closed stays; what is opened is new -/
structure Kp (O : Addr → Prop) (H : Hp) (O' : Addr → Prop) (H' : Hp) : Prop where
  keep : ∀ a o, H a = some o → ¬ O a → H' a = some o
  new : ∀ a, O' a → O a ∨ H a = none
section
variable {O O1 O2 : Addr → Prop} {H H1 H2 : Hp} {K : PySem.W.Frag}
theorem Kp.refl : Kp O H O H := ⟨fun _ _ h _ => h, fun _ h => .inl h⟩
theorem Kp.not (k : Kp O H O1 H1) {a : Addr} {o : HO} (e : H a = some o) (n : ¬ O a) : ¬ O1 a := fun h => by
  rcases k.new a h with q | q
  · exact n q
  · rw [e] at q; cases q
theorem Kp.trans (k : Kp O H O1 H1) (j : Kp O1 H1 O2 H2) : Kp O H O2 H2 := by
  refine ⟨fun a o e n => j.keep a o (k.keep a o e n) (k.not e n), fun a h => ?_⟩
  rcases j.new a h with q | q
  · exact k.new a q
  · by_cases n : O a
    · exact .inl n
    · right
      cases e : H a with
      | none => rfl
      | some o => rw [k.keep a o e n] at q; cases q
/-- something new is laid, and closed -/
theorem Kp.laid {a : Addr} {o : HO} (n : H a = none) : Kp O H O (upd H a o) :=
  ⟨fun b u e _ => by rw [upd_ne (ne_of_none e n)]; exact e, fun _ h => .inl h⟩
theorem Kp.lay {a : Addr} {o : HO} (n : H a = none) {P : Addr → Prop} (hp : ∀ b, P b → O b ∨ b = a) : Kp O H P (upd H a o) :=
  ⟨fun b u e _ => by rw [upd_ne (ne_of_none e n)]; exact e, fun b h => by
    rcases hp b h with q | rfl
    · exact .inl q
    · exact .inr n⟩
/-- an open thing is written -/
theorem Kp.wrote {a : Addr} {o : HO} (h : O a) {P : Addr → Prop} (hp : ∀ b, P b → O b) : Kp O H P (upd H a o) :=
  ⟨fun b u e nb => by rw [upd_ne (fun z : b = a => nb (by rw [z]; exact h))]; exact e, fun b h => .inl (hp b h)⟩
theorem Rc.keep {a : Addr} {u : HO} (k : Kp O H O1 H1) (r : Rc H O a u) : Rc H1 O1 a u := by
  obtain ⟨e | ⟨o, e⟩, n⟩ := r
  · exact ⟨.inl (k.keep _ _ e n), k.not e n⟩
  · exact ⟨.inr ⟨o, k.keep _ _ e n⟩, k.not e n⟩
mutual
theorem Rep.keep (k : Kp O H O1 H1) : ∀ {d : D} {v : V}, Rep K H O d v → Rep K H1 O1 d v
  | .non, _, h => h
  | .bl _, _, h => h
  | .int _, _, h => h
  | .str _, _, h => h
  | .ty _, _, h => h
  | .ref _, _, h => h
  | .tup ds, _, h => by
    unfold Rep at h ⊢
    obtain ⟨a, xs, e, q, r⟩ := h
    exact ⟨a, xs, e, q.imp (Rc.keep k) id, Reps.keep k r⟩
  | .lst ds, _, h => by
    unfold Rep at h ⊢
    obtain ⟨a, xs, e, q, r⟩ := h
    exact ⟨a, xs, e, ⟨k.keep _ _ q.1 q.2, k.not q.1 q.2⟩, Reps.keep k r⟩
  | .scr ds, _, h => by
    unfold Rep at h ⊢
    obtain ⟨a, xs, e, q, r⟩ := h
    exact ⟨a, xs, e, q.imp (Rc.keep k) id, Reps.keep k r⟩
  | .dic kvs, _, h => by
    unfold Rep at h ⊢
    obtain ⟨a, xs, e, q, r⟩ := h
    exact ⟨a, xs, e, Rc.keep k q, RepK.keep k r⟩
  | .exn C fs, _, h => by
    unfold Rep at h ⊢
    obtain ⟨a, e, h | ⟨dx, ws, q1, q2, r⟩⟩ := h
    · exact ⟨a, e, .inl ⟨h.1, k.keep _ _ h.2.1 h.2.2, k.not h.2.1 h.2.2⟩⟩
    · exact ⟨a, e, .inr ⟨dx, ws, ⟨k.keep _ _ q1.1 q1.2, k.not q1.1 q1.2⟩, ⟨k.keep _ _ q2.1 q2.2, k.not q2.1 q2.2⟩, RepF.keep k r⟩⟩
theorem Reps.keep (k : Kp O H O1 H1) : ∀ {ds : List D} {vs : List V}, Reps K H O ds vs → Reps K H1 O1 ds vs
  | [], _, h => h
  | d :: ds, _, h => by
    unfold Reps at h ⊢
    obtain ⟨v, r, e, p, q⟩ := h
    exact ⟨v, r, e, Rep.keep k p, Reps.keep k q⟩
theorem RepK.keep (k : Kp O H O1 H1) : ∀ {ds : List (Key × D)} {vs : List (Key × V)}, RepK K H O ds vs → RepK K H1 O1 ds vs
  | [], _, h => h
  | (x, d) :: ds, _, h => by
    unfold RepK at h ⊢
    obtain ⟨v, r, e, p, q⟩ := h
    exact ⟨v, r, e, Rep.keep k p, RepK.keep k q⟩
theorem RepF.keep (k : Kp O H O1 H1) : ∀ {ds : List (Str × D)} {vs : List (Str × V)}, RepF K H O ds vs → RepF K H1 O1 ds vs
  | [], _, h => h
  | (x, d) :: ds, _, h => by
    unfold RepF at h ⊢
    obtain ⟨v, r, e, p, q⟩ := h
    exact ⟨v, r, e, Rep.keep k p, RepF.keep k q⟩
end
theorem Reps.cons {d : D} {ds : List D} {v : V} {vs : List V} (h : Rep K H O d v) (t : Reps K H O ds vs) : Reps K H O (d :: ds) (v :: vs) := by
  unfold Reps; exact ⟨v, vs, rfl, h, t⟩
theorem Reps.nil : Reps K H O [] [] := by unfold Reps; rfl
theorem Reps.length : ∀ {ds : List D} {vs : List V}, Reps K H O ds vs → vs.length = ds.length
  | [], _, h => by unfold Reps at h; subst h; rfl
  | d :: ds, _, h => by
    unfold Reps at h
    obtain ⟨v, r, rfl, _, q⟩ := h
    rw [List.length_cons, List.length_cons, Reps.length q]
theorem Reps.append : ∀ {ds es : List D} {vs us : List V}, Reps K H O ds vs → Reps K H O es us → Reps K H O (ds ++ es) (vs ++ us)
  | [], _, _, _, h, g => by unfold Reps at h; subst h; exact g
  | d :: ds, _, _, _, h, g => by
    unfold Reps at h
    obtain ⟨v, r, rfl, p, q⟩ := h
    exact Reps.cons p (Reps.append q g)
theorem Reps.get : ∀ {ds : List D} {vs : List V} {i : Nat} {d : D}, Reps K H O ds vs → ds[i]? = some d → ∃ v, vs[i]? = some v ∧ Rep K H O d v
  | [], _, _, _, _, e => by simp at e
  | d :: ds, _, 0, _, h, e => by
    unfold Reps at h
    obtain ⟨v, r, rfl, p, _⟩ := h
    simp at e; subst e
    exact ⟨v, rfl, p⟩
  | d :: ds, _, i + 1, _, h, e => by
    unfold Reps at h
    obtain ⟨v, r, rfl, _, q⟩ := h
    obtain ⟨w, e1, e2⟩ := Reps.get (i := i) q (by simpa using e)
    exact ⟨w, by simpa using e1, e2⟩
theorem Reps.back : ∀ {ds : List D} {vs : List V} {i : Nat} {v : V}, Reps K H O ds vs → vs[i]? = some v → ∃ d, ds[i]? = some d ∧ Rep K H O d v
  | [], _, _, _, h, e => by unfold Reps at h; subst h; simp at e
  | d :: ds, _, 0, _, h, e => by
    unfold Reps at h
    obtain ⟨v, r, rfl, p, _⟩ := h
    simp at e; subst e
    exact ⟨d, rfl, p⟩
  | d :: ds, _, i + 1, _, h, e => by
    unfold Reps at h
    obtain ⟨v, r, rfl, _, q⟩ := h
    obtain ⟨w, e1, e2⟩ := Reps.back (i := i) q (by simpa using e)
    exact ⟨w, by simpa using e1, e2⟩
theorem Reps.take : ∀ {ds : List D} {vs : List V} (n : Nat), Reps K H O ds vs → Reps K H O (ds.take n) (vs.take n)
  | [], _, n, h => by unfold Reps at h; subst h; simp only [List.take_nil]; exact Reps.nil
  | d :: ds, _, 0, h => by simp only [List.take_zero]; exact Reps.nil
  | d :: ds, _, n + 1, h => by
    unfold Reps at h
    obtain ⟨v, r, rfl, p, q⟩ := h
    simp only [List.take_succ_cons]
    exact Reps.cons p (Reps.take n q)
theorem Reps.drop : ∀ {ds : List D} {vs : List V} (n : Nat), Reps K H O ds vs → Reps K H O (ds.drop n) (vs.drop n)
  | [], _, n, h => by unfold Reps at h; subst h; simp only [List.drop_nil]; exact Reps.nil
  | d :: ds, _, 0, h => h
  | d :: ds, _, n + 1, h => by
    unfold Reps at h
    obtain ⟨v, r, rfl, p, q⟩ := h
    exact Reps.drop n q
theorem Reps.set : ∀ {ds : List D} {vs : List V} (i : Nat) {d : D} {v : V}, Reps K H O ds vs → Rep K H O d v → Reps K H O (ds.set i d) (vs.set i v)
  | [], _, n, _, _, h, _ => by unfold Reps at h; subst h; exact Reps.nil
  | d :: ds, _, 0, _, _, h, g => by
    unfold Reps at h
    obtain ⟨v, r, rfl, p, q⟩ := h
    exact Reps.cons g q
  | d :: ds, _, n + 1, _, _, h, g => by
    unfold Reps at h
    obtain ⟨v, r, rfl, p, q⟩ := h
    exact Reps.cons p (Reps.set n q g)
theorem Rep.tup_seq {ds : List D} {v : V} (h : Rep K H O (.tup ds) v) : ∃ a xs, v = .ref a ∧ SqT K H a xs ∧ Reps K H O ds xs := by
  unfold Rep at h
  obtain ⟨a, xs, e, q, r⟩ := h
  exact ⟨a, xs, e, q.imp (·.1) id, r⟩
theorem Rep.lst_seq {ds : List D} {v : V} (h : Rep K H O (.lst ds) v) : ∃ a xs, v = .ref a ∧ H a = some (.lst xs) ∧ Reps K H O ds xs := by
  unfold Rep at h
  obtain ⟨a, xs, e, q, r⟩ := h
  exact ⟨a, xs, e, q.1, r⟩
theorem Rep.scr_seq {ds : List D} {v : V} (h : Rep K H O (.scr ds) v) : ∃ a xs, v = .ref a ∧ SqL K H a xs ∧ Reps K H O ds xs := by
  unfold Rep at h
  obtain ⟨a, xs, e, q, r⟩ := h
  exact ⟨a, xs, e, q.imp (·.1) id, r⟩
end
/-- what stands at an open address -/
def RepO (K : PySem.W.Frag) (H : Hp) (O : Addr → Prop) (a : Addr) : OO → Prop
  | .lst ds => ∃ xs, H a = some (.lst xs) ∧ Reps K H O ds xs
  | .dic kvs => ∃ ws, H a = some (.dK ws) ∧ RepK K H O kvs ws
  | .ins C dx fs => ∃ ws, H a = some (.ins C dx ws) ∧ ws.map (·.1) = fs.map (·.1) ∧ Reps K H O (fs.map (·.2)) (ws.map (·.2))
  | .raw o => H a = some o
def RelH (K : PySem.W.Frag) (H : Hp) (ω : Sto) : Prop := ∀ a o, ω a = some o → RepO K H (dm ω) a o
theorem RepO.keep {K : PySem.W.Frag} {O O1 : Addr → Prop} {H H1 : Hp} {a : Addr} {o : OO} (k : Kp O H O1 H1) (he : H1 a = H a) (r : RepO K H O a o) : RepO K H1 O1 a o := by
  cases o with
  | lst ds => obtain ⟨xs, e, q⟩ := r; exact ⟨xs, he.trans e, q.keep k⟩
  | dic ds => obtain ⟨xs, e, q⟩ := r; exact ⟨xs, he.trans e, q.keep k⟩
  | ins C dx fs => obtain ⟨xs, e, n, q⟩ := r; exact ⟨xs, he.trans e, n, q.keep k⟩
  | raw o => exact he.trans r
theorem RepO.ex {K : PySem.W.Frag} {O : Addr → Prop} {H : Hp} {a : Addr} {o : OO} (r : RepO K H O a o) : ∃ u, H a = some u := by
  cases o with
  | lst ds => obtain ⟨xs, e, q⟩ := r; exact ⟨_, e⟩
  | dic ds => obtain ⟨xs, e, q⟩ := r; exact ⟨_, e⟩
  | ins C dx fs => obtain ⟨xs, e, n, q⟩ := r; exact ⟨_, e⟩
  | raw o => exact ⟨_, r⟩
/-- the store with o at a -/
def put (ω : Sto) (a : Addr) (o : OO) : Sto := fun b => if b = a then some o else ω b
theorem put_same {ω : Sto} {a : Addr} {o : OO} : put ω a o a = some o := by unfold put; rw [if_pos rfl]
theorem put_ne {ω : Sto} {a b : Addr} {o : OO} (h : b ≠ a) : put ω a o b = ω b := by unfold put; rw [if_neg h]
theorem put_put {ω : Sto} {a : Addr} {o u : OO} : put (put ω a o) a u = put ω a u := by
  funext b; unfold put; split <;> rfl
/-- the store without a -/
def cut (ω : Sto) (a : Addr) : Sto := fun b => if b = a then none else ω b
theorem cut_same {ω : Sto} {a : Addr} : cut ω a a = none := by unfold cut; rw [if_pos rfl]
theorem cut_ne {ω : Sto} {a b : Addr} (h : b ≠ a) : cut ω a b = ω b := by unfold cut; rw [if_neg h]
theorem cut_put {ω : Sto} {a : Addr} {o : OO} (h : ω a = none) : cut (put ω a o) a = ω := by
  funext b; unfold cut put
  by_cases e : b = a
  · subst e; rw [if_pos rfl, h]
  · rw [if_neg e, if_neg e]
section
variable {K : PySem.W.Frag} {H H1 : Hp} {ω : Sto} {a : Addr}
theorem RelH.at (r : RelH K H ω) {o : OO} (e : ω a = some o) : ∃ u, H a = some u := (r a o e).ex
theorem RelH.free (r : RelH K H ω) (n : H a = none) : ω a = none := by
  cases e : ω a with
  | none => rfl
  | some o => obtain ⟨u, q⟩ := r.at e; rw [n] at q; cases q
/-- a new closed thing -/
theorem RelH.laid (r : RelH K H ω) {o : HO} (n : H a = none) : RelH K (upd H a o) ω := fun b u e => by
  have ne : b ≠ a := fun z => by subst z; rw [r.free n] at e; cases e
  exact (r b u e).keep (Kp.laid n) (upd_ne ne)
/-- a new open thing -/
theorem RelH.lay (r : RelH K H ω) {o : HO} {u : OO} (n : H a = none) (new : RepO K (upd H a o) (dm (put ω a u)) a u) : RelH K (upd H a o) (put ω a u) := fun b w e => by
  by_cases h : b = a
  · subst h; rw [put_same] at e; cases e; exact new
  · rw [put_ne h] at e
    refine (r b w e).keep (Kp.lay n fun c hc => ?_) (upd_ne h)
    by_cases hb : c = a
    · exact .inr hb
    · exact .inl (by have hc' : put ω a u c ≠ none := hc; rwa [put_ne hb] at hc')
theorem dm_put {u o : OO} (h : ω a = some u) : ∀ b, dm (put ω a o) b → dm ω b := fun b hb => by
  by_cases e : b = a
  · subst e; show ω b ≠ none; rw [h]; exact fun z => nomatch z
  · have hb' : put ω a o b ≠ none := hb
    rwa [put_ne e] at hb'
theorem dm_put' {u o : OO} (h : ω a = some u) : dm (put ω a o) = dm ω := by
  funext b
  apply propext
  refine ⟨dm_put h b, fun hb => ?_⟩
  by_cases e : b = a
  · subst e; show put ω b o b ≠ none; rw [put_same]; exact fun z => nomatch z
  · show put ω a o b ≠ none; rwa [put_ne e]
/-- an open thing is written -/
theorem RelH.wrote (r : RelH K H ω) {o : HO} {u w : OO} (h : ω a = some w) (new : RepO K (upd H a o) (dm ω) a u) : RelH K (upd H a o) (put ω a u) := fun b v e => by
  have da : dm ω a := by show ω a ≠ none; rw [h]; exact fun z => nomatch z
  rw [dm_put' h]
  by_cases hb : b = a
  · subst hb; rw [put_same] at e; cases e; exact new
  · rw [put_ne hb] at e
    exact (r b v e).keep (Kp.wrote da fun _ q => q) (upd_ne hb)
/-- an open thing is closed -/
theorem Kp.closed : Kp (dm ω) H (dm (cut ω a)) H := ⟨fun _ _ h _ => h, fun b h => .inl (by
  have h' : cut ω a b ≠ none := h
  by_cases e : b = a
  · subst e; rw [cut_same] at h'; exact (h' rfl).elim
  · rwa [cut_ne e] at h')⟩
theorem RelH.closed (r : RelH K H ω) : RelH K H (cut ω a) := fun b o e => by
  have ne : b ≠ a := fun z => by subst z; rw [cut_same] at e; cases e
  rw [cut_ne ne] at e
  exact (r b o e).keep Kp.closed rfl
theorem close_lst (r : RelH K H ω) {ds : List D} (e : ω a = some (.lst ds)) : Rep K H (dm (cut ω a)) (.lst ds) (.ref a) := by
  obtain ⟨xs, h, q⟩ := r a _ e
  unfold Rep
  exact ⟨a, xs, rfl, ⟨h, fun z => z cut_same⟩, q.keep Kp.closed⟩
theorem close_dic (r : RelH K H ω) {ds : List (Key × D)} (e : ω a = some (.dic ds)) : Rep K H (dm (cut ω a)) (.dic ds) (.ref a) := by
  obtain ⟨xs, h, q⟩ := r a _ e
  unfold Rep
  exact ⟨a, xs, rfl, ⟨.inl h, fun z => z cut_same⟩, q.keep Kp.closed⟩
end
end DL
end

section
set_option Elab.async false
set_option linter.all false
set_option maxRecDepth 100000
namespace DL
open PySem PySem.Spec L2
open PyProof.Rows hiding St

abbrev Rho := List (Option D)
/-- an exception: its class, its own attributes -/
structure Exn where
  cls : Addr
  fs : List (Str × D)
abbrev DQ := D → Sto → Prop
abbrev DX := Exn → Sto → Prop
abbrev DTE := Rho → Sto → DQ → DX → Prop
abbrev DTT := Rho → Sto → (Bool → Sto → Prop) → DX → Prop
abbrev DTA := Rho → Sto → (List D → Sto → Prop) → DX → Prop

def RelS (K : PySem.W.Frag) (H : Hp) (O : Addr → Prop) (ρ : Rho) (σ : St) : Prop :=
  ρ.length = σ.length ∧ ∀ (i : Nat) (d : D), ρ[i]? = some (some d) → ∃ v, σ[i]? = some (some v) ∧ Rep K H O d v
theorem RelS.keep {K : PySem.W.Frag} {H H1 : Hp} {O O1 : Addr → Prop} {ρ : Rho} {σ : St} (k : Kp O H O1 H1) (r : RelS K H O ρ σ) : RelS K H1 O1 ρ σ :=
  ⟨r.1, fun i d e => let ⟨v, a, b⟩ := r.2 i d e; ⟨v, a, b.keep k⟩⟩
theorem RelS.set {K : PySem.W.Frag} {H : Hp} {O : Addr → Prop} {ρ : Rho} {σ : St} (r : RelS K H O ρ σ) {d : D} {v : V} (i : Nat) (h : Rep K H O d v) : RelS K H O (ρ.set i (some d)) (σ.set i (some v)) := by
  refine ⟨by simpa using r.1, fun j e q => ?_⟩
  by_cases hj : i = j
  · subst hj
    by_cases hi : i < ρ.length
    · rw [List.getElem?_set_self hi] at q
      cases q
      exact ⟨v, List.getElem?_set_self (r.1 ▸ hi), h⟩
    · rw [List.getElem?_eq_none (by simpa using hi)] at q; cases q
  · rw [List.getElem?_set_ne hj] at q
    obtain ⟨u, a, b⟩ := r.2 j e q
    exact ⟨u, by rw [List.getElem?_set_ne hj]; exact a, b⟩
theorem RelS.forget {K : PySem.W.Frag} {H : Hp} {O : Addr → Prop} {ρ : Rho} {σ : St} (r : RelS K H O ρ σ) (i : Nat) : RelS K H O (ρ.set i none) (σ.set i none) := by
  refine ⟨by simpa using r.1, fun j e q => ?_⟩
  by_cases hj : i = j
  · subst hj
    by_cases hi : i < ρ.length
    · rw [List.getElem?_set_self hi] at q; cases q
    · rw [List.getElem?_eq_none (by simpa using hi)] at q; cases q
  · rw [List.getElem?_set_ne hj] at q
    obtain ⟨u, a, b⟩ := r.2 j e q
    exact ⟨u, by rw [List.getElem?_set_ne hj]; exact a, b⟩
def RepX (K : PySem.W.Frag) (H : Hp) (O : Addr → Prop) (x : Exn) (cls : Value) (dd : Option Addr) : Prop :=
  cls = .ref x.cls ∧ ((dd = none ∧ x.fs = []) ∨ ∃ d ws, dd = some d ∧ H d = some (.xd ws) ∧ ¬ O d ∧ RepF K H O x.fs ws)

/-- where one stands -/
structure At (K : PySem.W.Frag) (σ : St) (H : Hp) (ρ : Rho) (ω : Sto) : Prop where
  s : RelS K H (dm ω) ρ σ
  h : RelH K H ω
theorem At.on {K : PySem.W.Frag} {σ : St} {H H1 : Hp} {ρ : Rho} {ω ω1 : Sto} (a : At K σ H ρ ω) (k : Kp (dm ω) H (dm ω1) H1) (h : RelH K H1 ω1) : At K σ H1 ρ ω1 := ⟨a.s.keep k, h⟩
/-- what an exception finds -/
def Ek (K : PySem.W.Frag) (W : WX) (σ : St) (ω : Sto) (H : Hp) (Ed : DX) : Prop :=
  ∀ x ω' cls dd H', Kp (dm ω) H (dm ω') H' → RelH K H' ω' → RepX K H' (dm ω') x cls dd → Ed x ω' → W cls dd σ H'
theorem Ek.on {K : PySem.W.Frag} {W : WX} {σ : St} {ω ω1 : Sto} {H H1 : Hp} {Ed : DX} (e : Ek K W σ ω H Ed) (k : Kp (dm ω) H (dm ω1) H1) : Ek K W σ ω1 H1 Ed :=
  fun x ω' cls dd H' k' => e x ω' cls dd H' (k.trans k')
/-- what a value finds -/
def Vk (K : PySem.W.Frag) (ω : Sto) (H : Hp) (Qd : DQ) (Q : VK) : Prop :=
  ∀ d ω' v H', Kp (dm ω) H (dm ω') H' → RelH K H' ω' → Rep K H' (dm ω') d v → Qd d ω' → Q v H'
theorem Vk.on {K : PySem.W.Frag} {ω ω1 : Sto} {H H1 : Hp} {Qd : DQ} {Q : VK} (e : Vk K ω H Qd Q) (k : Kp (dm ω) H (dm ω1) H1) : Vk K ω1 H1 Qd Q :=
  fun d ω' v H' k' => e d ω' v H' (k.trans k')
def cE (K : PySem.W.Frag) (W : WX) (t : DTE) : TE := fun σ H Q => ∃ ρ ω Qd Ed, At K σ H ρ ω ∧ t ρ ω Qd Ed ∧ Vk K ω H Qd Q ∧ Ek K W σ ω H Ed
def cT (K : PySem.W.Frag) (W : WX) (t : DTT) : TT := fun σ H Q => ∃ ρ ω Qd Ed, At K σ H ρ ω ∧ t ρ ω Qd Ed ∧
  (∀ b ω' H', Kp (dm ω) H (dm ω') H' → RelH K H' ω' → Qd b ω' → Q b H') ∧ Ek K W σ ω H Ed
def cA (K : PySem.W.Frag) (W : WX) (t : DTA) : TA := fun σ H Q => ∃ ρ ω Qd Ed, At K σ H ρ ω ∧ t ρ ω Qd Ed ∧
  (∀ ds ω' vs H', Kp (dm ω) H (dm ω') H' → RelH K H' ω' → Reps K H' (dm ω') ds vs → Qd ds ω' → Q vs H') ∧ Ek K W σ ω H Ed
/-- a value is handed on as it stands -/
theorem Vk.now {K : PySem.W.Frag} {ω : Sto} {H : Hp} {Qd : DQ} {Q : VK} (e : Vk K ω H Qd Q) (h : RelH K H ω) {d : D} {v : V} (r : Rep K H (dm ω) d v) (q : Qd d ω) : Q v H := e d ω v H Kp.refl h r q
abbrev DE (X : Cx) (W : WX) (e : Expr) (t : DTE) : Prop := PE X e (cE X.K W t)
abbrev DT (X : Cx) (W : WX) (e : Expr) (t : DTT) : Prop := PT X e (cT X.K W t)
abbrev DA (X : Cx) (W : WX) (es : List Expr) (t : DTA) : Prop := PA X es (cA X.K W t)
theorem pe_imp {X : Cx} {e : Expr} {t t' : TE} (h : PE X e t) (i : ∀ σ H Q, t' σ H Q → t σ H Q) : PE X e t' := ⟨fun pins s σ H Q I q => h.run pins s σ H Q I (i _ _ _ q)⟩
theorem pt_imp {X : Cx} {e : Expr} {t t' : TT} (h : PT X e t) (i : ∀ σ H Q, t' σ H Q → t σ H Q) : PT X e t' := ⟨fun pins s σ H Q I q => h.run pins s σ H Q I (i _ _ _ q)⟩
theorem pw_imp {X : Cx} {e : Expr} {t t' : TT} (h : PW X e t) (i : ∀ σ H Q, t' σ H Q → t σ H Q) : PW X e t' := ⟨fun wh pins s σ H Q I q => h.run wh pins s σ H Q I (i _ _ _ q)⟩
theorem pa_imp {X : Cx} {es : List Expr} {t t' : TA} (h : PA X es t) (i : ∀ σ H Q, t' σ H Q → t σ H Q) : PA X es t' := ⟨fun pos pins s σ H Q I q => h.run pos pins s σ H Q I (i _ _ _ q)⟩

section
variable {X : Cx} {W : WX} {e a b c : Expr} {es : List Expr} {te ta tb tc : DTE} {tt tu : DTT} {tas : DTA} {pos : Pos}
/-! ### names, constants -/
def dVar (i : Nat) : DTE := fun ρ ω Q _ => match ρ[i]? with
  | some (some d) => Q d ω
  | _ => False
theorem de_var {i : Nat} {x : Str} (h : PE X (.Name x pos) (tVar i)) : DE X W (.Name x pos) (dVar i) := pe_imp h fun σ H Q ⟨ρ, ω, Qd, Ed, a, q, hv, he⟩ => by
  unfold dVar at q
  split at q
  · rename_i d e
    obtain ⟨v, e1, r⟩ := a.s.2 i d e
    exact ⟨v, e1, hv.now a.h r q⟩
  · exact q.elim
def dK (d : D) : DTE := fun _ ω Q _ => Q d ω
theorem de_k {v : V} {d : D} (h : PE X e (tC v)) (r : ∀ H O, Rep X.K H O d v) : DE X W e (dK d) := pe_imp h fun σ H Q ⟨ρ, ω, Qd, Ed, a, q, hv, he⟩ => hv.now a.h (r _ _) q
theorem de_int {i : Int} {j} : DE X W (.Constant (.int i) j pos) (dK (.int i)) := de_k pe_int fun _ _ => by unfold Rep; rfl
theorem de_bl {i : Bool} {j} : DE X W (.Constant (.bool i) j pos) (dK (.bl i)) := de_k pe_bl fun _ _ => by unfold Rep; rfl
theorem de_non {j} : DE X W (.Constant .none j pos) (dK .non) := de_k pe_non fun _ _ => by unfold Rep; rfl
theorem de_str {i : Str} {j} : DE X W (.Constant (.str i) j pos) (dK (.str i)) := de_k pe_str fun _ _ => by unfold Rep; rfl
/-! ### several -/
def dNil : DTA := fun _ ω Q _ => Q [] ω
def dCons (t : DTE) (u : DTA) : DTA := fun ρ ω Q E => t ρ ω (fun d ω1 => u ρ ω1 (fun ds ω2 => Q (d :: ds) ω2) E) E
theorem da_nil : DA X W [] dNil := pa_imp pa_nil fun σ H Q ⟨ρ, ω, Qd, Ed, a, q, hv, he⟩ => hv [] ω [] H Kp.refl a.h Reps.nil q
theorem da_cons (h1 : DE X W e te) (h2 : DA X W es tas) (hs : starEach (e :: es) X.env = (false, eval e X.env) :: starEach es X.env := by rfl) : DA X W (e :: es) (dCons te tas) := pa_imp (pa_cons h1 h2 hs) fun σ H Q ⟨ρ, ω, Qd, Ed, a, q, hv, he⟩ =>
  ⟨ρ, ω, _, Ed, a, q, fun d ω1 v H1 k1 r1 p1 q1 => ⟨ρ, ω1, _, Ed, a.on k1 r1, q1, fun ds ω2 vs H2 k2 r2 p2 q2 => hv _ ω2 _ H2 (k1.trans k2) r2 (Reps.cons (p1.keep k2) p2) q2, he.on k1⟩, he⟩
/-! ### displays -/
def dTup (t : DTA) : DTE := fun ρ ω Q E => t ρ ω (fun ds ω1 => ds.length ≤ sizeLine ∧ Q (.tup ds) ω1) E
def dLst (t : DTA) : DTE := fun ρ ω Q E => t ρ ω (fun ds ω1 => ds.length ≤ sizeLine ∧ Q (.lst ds) ω1) E
/-- an open list -/
def dOpn (t : DTA) : DTE := fun ρ ω Q E => t ρ ω (fun ds ω1 => ds.length ≤ sizeLine ∧ ∀ p, ω1 p = none → Q (.ref p) (put ω1 p (.lst ds))) E
theorem rep_tup_new {K : PySem.W.Frag} {H : Hp} {O : Addr → Prop} {p : Addr} {ds : List D} {vs : List V} (n : H p = none) (no : ¬ O p) (r : Reps K H O ds vs) : Rep K (upd H p (.tup vs)) O (.tup ds) (.ref p) := by
  unfold Rep
  exact ⟨p, vs, rfl, .inl ⟨.inl upd_same, no⟩, r.keep (Kp.laid n)⟩
theorem rep_lst_new {K : PySem.W.Frag} {H : Hp} {O : Addr → Prop} {p : Addr} {ds : List D} {vs : List V} (n : H p = none) (no : ¬ O p) (r : Reps K H O ds vs) : Rep K (upd H p (.lst vs)) O (.lst ds) (.ref p) := by
  unfold Rep
  exact ⟨p, vs, rfl, ⟨upd_same, no⟩, r.keep (Kp.laid n)⟩
theorem RelH.not {K : PySem.W.Frag} {H : Hp} {ω : Sto} {p : Addr} (r : RelH K H ω) (n : H p = none) : ¬ dm ω p := fun z => z (r.free n)
/-- a new open list -/
theorem lay_lst {K : PySem.W.Frag} {H : Hp} {ω : Sto} {p : Addr} {ds : List D} {vs : List V} (r : RelH K H ω) (n : H p = none) (q : Reps K H (dm ω) ds vs) :
    Kp (dm ω) H (dm (put ω p (.lst ds))) (upd H p (.lst vs)) ∧ RelH K (upd H p (.lst vs)) (put ω p (.lst ds)) := by
  have k : Kp (dm ω) H (dm (put ω p (.lst ds))) (upd H p (.lst vs)) := Kp.lay n fun c hc => by
    by_cases hb : c = p
    · exact .inr hb
    · exact .inl (by have hc' : put ω p _ c ≠ none := hc; rwa [put_ne hb] at hc')
  exact ⟨k, r.lay n ⟨vs, upd_same, q.keep k⟩⟩
theorem lay_dic {K : PySem.W.Frag} {H : Hp} {ω : Sto} {p : Addr} {ds : List (Key × D)} {vs : List (Key × V)} (r : RelH K H ω) (n : H p = none) (q : RepK K H (dm ω) ds vs) :
    Kp (dm ω) H (dm (put ω p (.dic ds))) (upd H p (.dK vs)) ∧ RelH K (upd H p (.dK vs)) (put ω p (.dic ds)) := by
  have k : Kp (dm ω) H (dm (put ω p (.dic ds))) (upd H p (.dK vs)) := Kp.lay n fun c hc => by
    by_cases hb : c = p
    · exact .inr hb
    · exact .inl (by have hc' : put ω p _ c ≠ none := hc; rwa [put_ne hb] at hc')
  exact ⟨k, r.lay n ⟨vs, upd_same, q.keep k⟩⟩
theorem de_tup {x1} (h : DA X W es tas) : DE X W (.Tuple es x1 pos) (dTup tas) := pe_imp (pe_tup h) fun σ H Q ⟨ρ, ω, Qd, Ed, a, q, hv, he⟩ =>
  ⟨ρ, ω, _, Ed, a, q, fun ds ω1 vs H1 k1 r1 p1 ⟨z, q1⟩ => ⟨by rw [p1.length]; exact z, fun p n => hv _ ω1 _ _ (k1.trans (Kp.laid n)) (r1.laid n) (rep_tup_new n (r1.not n) p1) q1⟩, he⟩
theorem de_lst (h : DA X W es tas) : DE X W (.List es pos) (dLst tas) := pe_imp (pe_lst h) fun σ H Q ⟨ρ, ω, Qd, Ed, a, q, hv, he⟩ =>
  ⟨ρ, ω, _, Ed, a, q, fun ds ω1 vs H1 k1 r1 p1 ⟨z, q1⟩ => ⟨by rw [p1.length]; exact z, fun p n => hv _ ω1 _ _ (k1.trans (Kp.laid n)) (r1.laid n) (rep_lst_new n (r1.not n) p1) q1⟩, he⟩
theorem rep_ref {K : PySem.W.Frag} {H : Hp} {O : Addr → Prop} {p : Addr} : Rep K H O (.ref p) (.ref p) := by unfold Rep; rfl
theorem de_opn (h : DA X W es tas) : DE X W (.List es pos) (dOpn tas) := pe_imp (pe_lst h) fun σ H Q ⟨ρ, ω, Qd, Ed, a, q, hv, he⟩ =>
  ⟨ρ, ω, _, Ed, a, q, fun ds ω1 vs H1 k1 r1 p1 ⟨z, q1⟩ => ⟨by rw [p1.length]; exact z, fun p n =>
    let ⟨k2, r2⟩ := lay_lst r1 n p1
    hv _ _ _ _ (k1.trans k2) r2 rep_ref (q1 p (r1.free n))⟩, he⟩
def dOpnD : DTE := fun ρ ω Q E => ∀ p, ω p = none → Q (.ref p) (put ω p (.dic []))
theorem de_opnd : DE X W (.Dict [] [] pos) dOpnD := pe_imp pe_dnewK fun σ H Q ⟨ρ, ω, Qd, Ed, a, q, hv, he⟩ => fun p n =>
  let ⟨k2, r2⟩ := lay_dic (ds := []) (vs := []) a.h n (by unfold RepK; rfl)
  hv _ _ _ _ k2 r2 rep_ref (q p (a.h.free n))

/-! ### operators, by values -/
abbrev OD := D → D → Sto → DQ → Prop
structure DOp (X : Cx) (f : Value → Value → Sem Value) (od : OD) : Prop where
  ok : ∃ r, OpR X f r ∧ ∀ x y H ω d e Q Qd, RelH X.K H ω → Rep X.K H (dm ω) d x → Rep X.K H (dm ω) e y → od d e ω Qd → Vk X.K ω H Qd Q → r x y H Q
def dOp (od : OD) (ta tb : DTE) : DTE := fun ρ ω Q E => ta ρ ω (fun d ω1 => tb ρ ω1 (fun e ω2 => od d e ω2 Q) E) E
theorem ent_op {K : PySem.W.Frag} {r : R2} {od : OD} (h : ∀ x y H ω d e Q Qd, RelH K H ω → Rep K H (dm ω) d x → Rep K H (dm ω) e y → od d e ω Qd → Vk K ω H Qd Q → r x y H Q) (σ : St) (H : Hp) (Q : VK) (q : cE K W (dOp od ta tb) σ H Q) :
    tOp r (cE K W ta) (cE K W tb) σ H Q := by
  obtain ⟨ρ, ω, Qd, Ed, a, q, hv, he⟩ := q
  exact ⟨ρ, ω, _, Ed, a, q, fun d ω1 v H1 k1 r1 p1 q1 => ⟨ρ, ω1, _, Ed, a.on k1 r1, q1, fun e ω2 u H2 k2 r2 p2 q2 => h v u H2 ω2 d e Q Qd r2 (p1.keep k2) p2 q2 (hv.on (k1.trans k2)), he.on k1⟩, he⟩
theorem de_op {op : Operator} {od : OD} (ho : DOp X (binaryOp op) od) (ha : DE X W a ta) (hb : DE X W b tb) : DE X W (.BinOp a op b pos) (dOp od ta tb) := by
  obtain ⟨r, h1, h2⟩ := ho.ok
  exact pe_imp (pe_op h1 ha hb) (ent_op h2)
theorem de_cmp {op : CmpOp} {od : OD} (ho : DOp X (compareOp op) od) (ha : DE X W a ta) (hb : DE X W b tb) (hm : behindInMarks op b = false := by first | exact nobehind _ (by decide) (by decide) | rfl) : DE X W (.Compare a [op] [b] pos) (dOp od ta tb) := by
  obtain ⟨r, h1, h2⟩ := ho.ok
  exact pe_imp (pe_cmpR h1 ha hb hm) (ent_op h2)
/-- a test that hands back a bool -/
def dTst (t : DTE) : DTT := fun ρ ω Q E => t ρ ω (fun d ω1 => match d with
  | .bl b => Q b ω1
  | _ => False) E
theorem ent_tst {K : PySem.W.Frag} {t : DTE} {t' : TE} (h : ∀ σ H Q, cE K W t σ H Q → t' σ H Q) (σ : St) (H : Hp) (Q : Bool → Hp → Prop) (q : cT K W (dTst t) σ H Q) : tTest t' σ H Q := by
  obtain ⟨ρ, ω, Qd, Ed, a, q, hv, he⟩ := q
  refine h _ _ _ ⟨ρ, ω, _, Ed, a, q, fun d ω1 v H1 k1 r1 p1 q1 => ?_, he⟩
  cases d with
  | bl b => unfold Rep at p1; exact ⟨b, p1, hv b ω1 H1 k1 r1 q1⟩
  | _ => exact q1.elim
theorem dt_cmp {op : CmpOp} {od : OD} (ho : DOp X (compareOp op) od) (ha : DE X W a ta) (hb : DE X W b tb) (hm : behindInMarks op b = false := by first | exact nobehind _ (by decide) (by decide) | rfl) : DT X W (.Compare a [op] [b] pos) (dTst (dOp od ta tb)) := by
  obtain ⟨r, h1, h2⟩ := ho.ok
  exact pt_imp (pt_cmpR h1 ha hb hm) (ent_tst (ent_op h2))
def dChain (od od' : OD) (ta tb tc : DTE) : DTE := fun ρ ω Q E => ta ρ ω (fun d ω1 => tb ρ ω1 (fun e ω2 => od d e ω2 (fun z ω3 => match z with
  | .bl k => if k = true then tc ρ ω3 (fun f ω4 => od' e f ω4 Q) E else Q (.bl false) ω3
  | _ => False)) E) E
theorem ent_chain {K : PySem.W.Frag} {r r' : R2} {od od' : OD} (h : ∀ x y H ω d e Q Qd, RelH K H ω → Rep K H (dm ω) d x → Rep K H (dm ω) e y → od d e ω Qd → Vk K ω H Qd Q → r x y H Q)
    (h' : ∀ x y H ω d e Q Qd, RelH K H ω → Rep K H (dm ω) d x → Rep K H (dm ω) e y → od' d e ω Qd → Vk K ω H Qd Q → r' x y H Q) (σ : St) (H : Hp) (Q : VK) (q : cE K W (dChain od od' ta tb tc) σ H Q) :
    tChain r r' (cE K W ta) (cE K W tb) (cE K W tc) σ H Q := by
  obtain ⟨ρ, ω, Qd, Ed, a, q, hv, he⟩ := q
  refine ⟨ρ, ω, _, Ed, a, q, fun d ω1 v H1 k1 r1 p1 q1 => ⟨ρ, ω1, _, Ed, a.on k1 r1, q1, fun e ω2 u H2 k2 r2 p2 q2 => h v u H2 ω2 d e _ _ r2 (p1.keep k2) p2 q2 fun z ω3 z' H3 k3 r3 p3 q3 => ?_, he.on k1⟩, he⟩
  cases z with
  | bl k =>
    unfold Rep at p3
    refine ⟨k, p3, ?_⟩
    have q3' : if k = true then tc ρ ω3 (fun f ω4 => od' e f ω4 Qd) Ed else Qd (.bl false) ω3 := q3
    by_cases hk : k = true
    · rw [if_pos hk] at q3' ⊢
      exact ⟨ρ, ω3, _, Ed, a.on ((k1.trans k2).trans k3) r3, q3', fun f ω4 w H4 k4 r4 p4 q4 => h' u w H4 ω4 e f Q Qd r4 ((p2.keep k3).keep k4) p4 q4 (hv.on (((k1.trans k2).trans k3).trans k4)), he.on ((k1.trans k2).trans k3)⟩
    · rw [if_neg hk] at q3' ⊢
      exact (hv.on ((k1.trans k2).trans k3)).now r3 (by unfold Rep; rfl) q3'
  | _ => exact q3.elim
theorem de_chain {op op' : CmpOp} {od od' : OD} (ho : DOp X (compareOp op) od) (ho' : DOp X (compareOp op') od') (ha : DE X W a ta) (hb : DE X W b tb) (hc : DE X W c tc) (hm : lastMarks [op, op'] [b, c] = false := by with_unfolding_all rfl) :
    DE X W (.Compare a [op, op'] [b, c] pos) (dChain od od' ta tb tc) := by
  obtain ⟨r, h1, h2⟩ := ho.ok
  obtain ⟨r', h1', h2'⟩ := ho'.ok
  exact pe_imp (pe_chain h1 h1' ha hb hc hm) (ent_chain h2 h2')
theorem dt_chain {op op' : CmpOp} {od od' : OD} (ho : DOp X (compareOp op) od) (ho' : DOp X (compareOp op') od') (ha : DE X W a ta) (hb : DE X W b tb) (hc : DE X W c tc) (hm : lastMarks [op, op'] [b, c] = false := by with_unfolding_all rfl) :
    DT X W (.Compare a [op, op'] [b, c] pos) (dTst (dChain od od' ta tb tc)) := by
  obtain ⟨r, h1, h2⟩ := ho.ok
  obtain ⟨r', h1', h2'⟩ := ho'.ok
  exact pt_imp (pt_chain h1 h1' ha hb hc hm) (ent_tst (ent_chain h2 h2'))
/-! ### truth -/
/-- an open list or dict, as it is now -/
def derR (ω : Sto) (p : Addr) : D := match ω p with
  | some (.lst ds) => .lst ds
  | some (.dic ds) => .dic ds
  | _ => .ref p
def der (ω : Sto) : D → D
  | .ref p => derR ω p
  | .lst ds => .lst ds
  | .tup ds => .tup ds
  | .dic ds => .dic ds
  | .non => .non
  | .bl b => .bl b
  | .int i => .int i
  | .str x => .str x
  | .ty n => .ty n
  | .scr ds => .scr ds
  | .exn C fs => .exn C fs
theorem RepK.length {K : PySem.W.Frag} {H : Hp} {O : Addr → Prop} : ∀ {ds : List (Key × D)} {vs : List (Key × V)}, RepK K H O ds vs → vs.length = ds.length
  | [], _, h => by unfold RepK at h; subst h; rfl
  | (k, d) :: ds, _, h => by
    unfold RepK at h
    obtain ⟨v, r, rfl, _, q⟩ := h
    rw [List.length_cons, List.length_cons, RepK.length q]
/-- a list, closed or open -/
theorem lst_of {K : PySem.W.Frag} {H : Hp} {ω : Sto} {d : D} {v : V} {ds : List D} (r : RelH K H ω) (p : Rep K H (dm ω) d v) (e : der ω d = .lst ds) : ∃ a xs, v = .ref a ∧ H a = some (.lst xs) ∧ Reps K H (dm ω) ds xs := by
  cases d with
  | lst es => cases e; exact p.lst_seq
  | ref a =>
    unfold Rep at p
    replace e : derR ω a = _ := e
    unfold derR at e
    subst p
    split at e
    · rename_i es h
      cases e
      obtain ⟨xs, h1, h2⟩ := r a _ h
      exact ⟨a, xs, rfl, h1, h2⟩
    · cases e
    · cases e
  | _ => cases e
theorem tup_of {K : PySem.W.Frag} {H : Hp} {ω : Sto} {d : D} {v : V} {ds : List D} (p : Rep K H (dm ω) d v) (e : der ω d = .tup ds) : ∃ a xs, v = .ref a ∧ SqT K H a xs ∧ Reps K H (dm ω) ds xs := by
  cases d with
  | tup es => cases e; exact p.tup_seq
  | ref a =>
    replace e : derR ω a = _ := e
    unfold derR at e
    split at e <;> cases e
  | _ => cases e
/-- a dict, closed or open -/
theorem dic_of {K : PySem.W.Frag} {H : Hp} {ω : Sto} {d : D} {v : V} {ds : List (Key × D)} (r : RelH K H ω) (p : Rep K H (dm ω) d v) (e : der ω d = .dic ds) : ∃ a xs, v = .ref a ∧ Rd H a (.dK xs) ∧ RepK K H (dm ω) ds xs := by
  cases d with
  | dic es =>
    cases e
    unfold Rep at p
    obtain ⟨a, xs, e, q, r⟩ := p
    exact ⟨a, xs, e, q.1, r⟩
  | ref a =>
    unfold Rep at p
    replace e : derR ω a = _ := e
    unfold derR at e
    subst p
    split at e
    · cases e
    · rename_i es h
      cases e
      obtain ⟨xs, h1, h2⟩ := r a _ h
      exact ⟨a, xs, rfl, .inl h1, h2⟩
    · cases e
  | _ => cases e
end
end DL
end

section
set_option Elab.async false
set_option linter.all false
set_option maxRecDepth 100000
namespace DL
open PySem PySem.Spec L2
open PyProof.Rows hiding St

/-! ### data for == and repr -/
mutual
def py : D → PyData
  | .non => .none
  | .bl b => .bool b
  | .int i => .int i
  | .str x => .str x
  | .tup ds => .tuple (pys ds)
  | .lst ds => .list (pys ds)
  | .dic _ => .dict []
  | .ty _ => .dict []
  | .ref _ => .dict []
  | .scr _ => .dict []
  | .exn _ _ => .dict []
def pys : List D → List PyData
  | [] => []
  | d :: ds => py d :: pys ds
end
mutual
/-- nothing but data -/
def plainD : D → Bool
  | .non => true
  | .bl _ => true
  | .int _ => true
  | .str x => PyData.strOk x
  | .tup ds => plainDs ds
  | .lst ds => plainDs ds
  | .dic _ => false
  | .ty _ => false
  | .ref _ => false
  | .scr _ => false
  | .exn _ _ => false
def plainDs : List D → Bool
  | [] => true
  | d :: ds => plainD d && plainDs ds
end
mutual
theorem canLay_py : ∀ {d : D}, plainD d = true → (py d).canLay0 = true
  | .non, _ => rfl
  | .bl _, _ => rfl
  | .int _, _ => rfl
  | .str x, h => h
  | .tup ds, h => by unfold py PyData.canLay0; unfold plainD at h; exact canLay_pys h
  | .lst ds, h => by unfold py PyData.canLay0; unfold plainD at h; exact canLay_pys h
  | .dic _, h => by unfold plainD at h; cases h
  | .ty _, h => by unfold plainD at h; cases h
  | .ref _, h => by unfold plainD at h; cases h
  | .scr _, h => by unfold plainD at h; cases h
  | .exn _ _, h => by unfold plainD at h; cases h
theorem canLay_pys : ∀ {ds : List D}, plainDs ds = true → PyData.canLayAll0 (pys ds) = true
  | [], _ => rfl
  | d :: ds, h => by
    unfold plainDs at h
    unfold pys PyData.canLayAll0
    rw [Bool.and_eq_true] at h ⊢
    exact ⟨canLay_py h.1, canLay_pys h.2⟩
end
mutual
theorem dp_of {K : PySem.W.Frag} {H : Hp} {O : Addr → Prop} : ∀ {d : D} {v : V}, plainD d = true → Rep K H O d v → Dp K H v (py d)
  | .non, _, _, h => by unfold Rep at h; subst h; exact .non
  | .bl b, _, _, h => by unfold Rep at h; subst h; exact .bl b
  | .int b, _, _, h => by unfold Rep at h; subst h; exact .int b
  | .str b, _, _, h => by unfold Rep at h; subst h; exact .str b
  | .tup ds, _, p, h => by
    obtain ⟨a, xs, rfl, q, r⟩ := h.tup_seq
    unfold plainD at p
    exact .tup q (dp_all p r)
  | .lst ds, _, p, h => by
    obtain ⟨a, xs, rfl, q, r⟩ := h.lst_seq
    unfold plainD at p
    exact .lst (.inl (.inl q)) (dp_all p r)
  | .dic _, _, h, _ => by unfold plainD at h; cases h
  | .ty _, _, h, _ => by unfold plainD at h; cases h
  | .ref _, _, h, _ => by unfold plainD at h; cases h
  | .scr _, _, h, _ => by unfold plainD at h; cases h
  | .exn _ _, _, h, _ => by unfold plainD at h; cases h
theorem dp_all {K : PySem.W.Frag} {H : Hp} {O : Addr → Prop} : ∀ {ds : List D} {vs : List V}, plainDs ds = true → Reps K H O ds vs → DpAll K H vs (pys ds)
  | [], _, _, h => by unfold Reps at h; subst h; exact .nil
  | d :: ds, _, p, h => by
    unfold Reps at h
    obtain ⟨v, r, rfl, a, b⟩ := h
    unfold plainDs at p
    rw [Bool.and_eq_true] at p
    exact .cons (dp_of p.1 a) (dp_all p.2 b)
end
/-- the same of a list that is open now -/
theorem dp_der {K : PySem.W.Frag} {H : Hp} {ω : Sto} {d : D} {v : V} (r : RelH K H ω) (p : Rep K H (dm ω) d v) (h : plainD (der ω d) = true) : Dp K H v (py (der ω d)) := by
  cases e : der ω d with
  | lst ds =>
    obtain ⟨a, xs, rfl, q, s⟩ := lst_of r p e
    rw [e] at h
    unfold plainD at h
    exact .lst (.inl (.inl q)) (dp_all h s)
  | tup ds =>
    obtain ⟨a, xs, rfl, q, s⟩ := tup_of p e
    rw [e] at h
    unfold plainD at h
    exact .tup q (dp_all h s)
  | dic _ => rw [e] at h; unfold plainD at h; cases h
  | ty _ => rw [e] at h; unfold plainD at h; cases h
  | ref _ => rw [e] at h; unfold plainD at h; cases h
  | scr _ => rw [e] at h; unfold plainD at h; cases h
  | exn _ _ => rw [e] at h; unfold plainD at h; cases h
  | _ =>
    have e2 : der ω d = d := by
      cases d with
      | ref a =>
        replace e : derR ω a = _ := e
        unfold derR at e
        split at e <;> cases e
      | _ => rfl
    rw [← e, e2]
    rw [e2] at h
    exact dp_of h p
def eqD (d e : D) : Bool := PyData.eqv (py d) (py e)
/-- how deep one of two is at most -/
def shal (d e : D) : Prop := (py d).depth ≤ 64 ∨ (py e).depth ≤ 64
def oEq : OD := fun d e ω Q => plainD (der ω d) = true ∧ plainD (der ω e) = true ∧ shal (der ω d) (der ω e) ∧ Q (.bl (eqD (der ω d) (der ω e))) ω
def oNe : OD := fun d e ω Q => plainD (der ω d) = true ∧ plainD (der ω e) = true ∧ shal (der ω d) (der ω e) ∧ Q (.bl (!eqD (der ω d) (der ω e))) ω
theorem shal.min {d e : D} (h : shal d e) : min (py d).depth (py e).depth ≤ 64 := by
  rcases h with h | h
  · exact Nat.le_trans (Nat.min_le_left _ _) h
  · exact Nat.le_trans (Nat.min_le_right _ _) h
section
variable {X : Cx}
theorem op_eqP (hu : X.A.units + 64 < cLine) : OpR X (compareOp .Eq) (fun x y H Q => ∃ d e, Dp X.K H x d ∧ Dp X.K H y e ∧ d.canLay0 = true ∧ e.canLay0 = true ∧ min d.depth e.depth ≤ 64 ∧ Q (.bl (PyData.eqv d e)) H) := by
  intro pins s σ H x y v u Q I rx ry h
  obtain ⟨d, e, hd, he, sd, se, m, q⟩ := h
  obtain ⟨as, r1⟩ := Dp.reads I d x v hd rx
  obtain ⟨bs, r2⟩ := Dp.reads I e y u he ry
  exact SeqAt.compareEq_reads r1 r2 sd se (by omega) ⟨.bl _, H, I, rfl, q⟩
theorem op_neP (hu : X.A.units + 64 < cLine) : OpR X (compareOp .NotEq) (fun x y H Q => ∃ d e, Dp X.K H x d ∧ Dp X.K H y e ∧ d.canLay0 = true ∧ e.canLay0 = true ∧ min d.depth e.depth ≤ 64 ∧ Q (.bl (!PyData.eqv d e)) H) := by
  intro pins s σ H x y v u Q I rx ry h
  obtain ⟨d, e, hd, he, sd, se, m, q⟩ := h
  obtain ⟨as, r1⟩ := Dp.reads I d x v hd rx
  obtain ⟨bs, r2⟩ := Dp.reads I e y u he ry
  exact SeqAt.compareNe_reads r1 r2 sd se (by omega) ⟨.bl _, H, I, rfl, q⟩
theorem o_eq (hu : X.A.units + 64 < cLine) : DOp X (compareOp .Eq) oEq := ⟨_, op_eqP hu, fun x y H ω d e Q Qd r p1 p2 ⟨h1, h2, h3, q⟩ hv =>
  ⟨_, _, dp_der r p1 h1, dp_der r p2 h2, canLay_py h1, canLay_py h2, h3.min, hv.now r (by unfold Rep; rfl) q⟩⟩
theorem o_ne (hu : X.A.units + 64 < cLine) : DOp X (compareOp .NotEq) oNe := ⟨_, op_neP hu, fun x y H ω d e Q Qd r p1 p2 ⟨h1, h2, h3, q⟩ hv =>
  ⟨_, _, dp_der r p1 h1, dp_der r p2 h2, canLay_py h1, canLay_py h2, h3.min, hv.now r (by unfold Rep; rfl) q⟩⟩

/-! ### ints, texts, lists, tuples -/
/-- a new list: closed, or open -/
def nl (m : Bool) (ds : List D) (ω : Sto) (Q : DQ) : Prop := if m = true then ∀ p, ω p = none → Q (.ref p) (put ω p (.lst ds)) else Q (.lst ds) ω
theorem nl.ok {K : PySem.W.Frag} {m : Bool} {ds : List D} {ω : Sto} {Qd : DQ} {Q : VK} {H : Hp} {vs : List V} (r : RelH K H ω) (h : nl m ds ω Qd) (p : Reps K H (dm ω) ds vs) (hv : Vk K ω H Qd Q) : ∀ a, H a = none → Q (.ref a) (upd H a (.lst vs)) := fun a n => by
  unfold nl at h
  by_cases e : m = true
  · rw [if_pos e] at h
    obtain ⟨k2, r2⟩ := lay_lst r n p
    exact hv _ _ _ _ k2 r2 rep_ref (h a (r.free n))
  · rw [if_neg e] at h
    exact hv _ _ _ _ (Kp.laid n) (r.laid n) (rep_lst_new n (r.not n) p) h
/-- a + b -/
def oAdd (m : Bool) : OD := fun d e ω Q => match der ω d, der ω e with
  | .int i, .int j => Q (.int (i + j)) ω
  | .str x, .str y => x.length + y.length ≤ sizeLine ∧ Q (.str (x ++ y)) ω
  | .lst xs, .lst ys => xs.length + ys.length ≤ sizeLine ∧ nl m (xs ++ ys) ω Q
  | .tup xs, .tup ys => xs.length + ys.length ≤ sizeLine ∧ Q (.tup (xs ++ ys)) ω
  | _, _ => False
/-- a list, closed or open, is plain to the machine -/
theorem op_catL : OpR X (binaryOp .Add) (fun x y H Q => ∃ l b xs zs, x = .ref l ∧ y = .ref b ∧ H l = some (.lst xs) ∧ H b = some (.lst zs) ∧ xs.length + zs.length ≤ sizeLine ∧ ∀ p, H p = none → Q (.ref p) (upd H p (.lst (xs ++ zs)))) := by
  intro pins s σ H x y v u Q I rx ry h
  obtain ⟨l, b, xs, zs, rfl, rfl, hH, hB, hz, q⟩ := h
  cases rx
  cases ry
  obtain ⟨_, its, n, r, pl⟩ := I.hok _ _ hH
  obtain ⟨_, its2, n2, r2, pl2⟩ := I.hok _ _ hB
  have e1 : its.length = xs.length := r.length.symm
  have e2 : its2.length = zs.length := r2.length.symm
  refine PySem.P.add_list pl pl2 ?_ (by rw [List.size_toArray, List.size_toArray]; omega)
  have ea : its.toArray ++ its2.toArray = (its ++ its2).toArray := by simp
  rw [ea]
  refine ⟨.ref s.heap.objs.size, _, I.laid (t' := s.toks) (o := .lst (xs ++ zs)) (fun b ob q => Heap.get?_push_of_some _ q) (Nat.le_refl _) ?_, rfl, q _ (I.hok.fresh (Nat.le_refl _))⟩
  exact ⟨by rw [List.length_append]; exact hz, _, _, r.append r2, Heap.get?_push_size _ rfl⟩
end
end DL
end

section
set_option Elab.async false
set_option linter.all false
set_option maxRecDepth 100000
namespace DL
open PySem PySem.Spec L2
open PyProof.Rows hiding St

theorem der_same {ω : Sto} {d : D} (h : ∀ ds, der ω d ≠ .lst ds) (h' : ∀ ds, der ω d ≠ .dic ds) : der ω d = d := by
  cases d with
  | ref a =>
    show derR ω a = .ref a
    have g : ∀ ds, derR ω a ≠ .lst ds := h
    have g' : ∀ ds, derR ω a ≠ .dic ds := h'
    unfold derR at g g' ⊢
    split
    · rename_i es e
      rw [e] at g
      exact (g es rfl).elim
    · rename_i es e
      rw [e] at g'
      exact (g' es rfl).elim
    · rfl
  | _ => rfl
theorem der_int {ω : Sto} {d : D} {i : Int} (e : der ω d = .int i) : d = .int i := (der_same (by rw [e]; intro _ z; cases z) (by rw [e]; intro _ z; cases z)).symm.trans e
theorem der_str {ω : Sto} {d : D} {i : Str} (e : der ω d = .str i) : d = .str i := (der_same (by rw [e]; intro _ z; cases z) (by rw [e]; intro _ z; cases z)).symm.trans e
theorem der_bl {ω : Sto} {d : D} {i : Bool} (e : der ω d = .bl i) : d = .bl i := (der_same (by rw [e]; intro _ z; cases z) (by rw [e]; intro _ z; cases z)).symm.trans e
theorem der_non {ω : Sto} {d : D} (e : der ω d = .non) : d = .non := (der_same (by rw [e]; intro _ z; cases z) (by rw [e]; intro _ z; cases z)).symm.trans e
theorem der_scr {ω : Sto} {d : D} {i : List D} (e : der ω d = .scr i) : d = .scr i := (der_same (by rw [e]; intro _ z; cases z) (by rw [e]; intro _ z; cases z)).symm.trans e
theorem der_tup {ω : Sto} {d : D} {i : List D} (e : der ω d = .tup i) : d = .tup i := (der_same (by rw [e]; intro _ z; cases z) (by rw [e]; intro _ z; cases z)).symm.trans e
section
variable {X : Cx} {K : PySem.W.Frag} {H : Hp} {O : Addr → Prop}
theorem Rep.int {i : Int} {v : V} (h : Rep K H O (.int i) v) : v = .int i := by unfold Rep at h; exact h
theorem Rep.str {i : Str} {v : V} (h : Rep K H O (.str i) v) : v = .str i := by unfold Rep at h; exact h
theorem Rep.bl {i : Bool} {v : V} (h : Rep K H O (.bl i) v) : v = .bl i := by unfold Rep at h; exact h
theorem Rep.non {v : V} (h : Rep K H O .non v) : v = .non := by unfold Rep at h; exact h
theorem Rep.ref {a : Addr} {v : V} (h : Rep K H O (.ref a) v) : v = .ref a := by unfold Rep at h; exact h
theorem Rep.ty {a : String} {v : V} (h : Rep K H O (.ty a) v) : v = .ty a := by unfold Rep at h; exact h
theorem rI {i : Int} : Rep K H O (.int i) (.int i) := by unfold Rep; rfl
theorem rS {i : Str} : Rep K H O (.str i) (.str i) := by unfold Rep; rfl
theorem rB {i : Bool} : Rep K H O (.bl i) (.bl i) := by unfold Rep; rfl
theorem rN : Rep K H O .non .non := by unfold Rep; rfl
theorem rTy {n : String} : Rep K H O (.ty n) (.ty n) := by unfold Rep; rfl
theorem rep_tup {a : Addr} {xs : List V} {ds : List D} (h : Rc H O a (.tup xs) ∨ cTup K a xs) (r : Reps K H O ds xs) : Rep K H O (.tup ds) (.ref a) := by unfold Rep; exact ⟨a, xs, rfl, h, r⟩
theorem Rep.tup_at {ds : List D} {v : V} (h : Rep K H O (.tup ds) v) : ∃ a xs, v = .ref a ∧ (Rc H O a (.tup xs) ∨ cTup K a xs) ∧ Reps K H O ds xs := by unfold Rep at h; exact h
theorem o_add (m : Bool) : DOp X (binaryOp .Add) (oAdd m) := ⟨_, OpR.or op_add (OpR.or op_add_str (OpR.or op_catL op_catA)), fun x y H ω d e Q Qd r p1 p2 q hv => by
  unfold oAdd at q
  split at q
  · rename_i i j e1 e2
    rw [der_int e1] at p1
    rw [der_int e2] at p2
    rw [p1.int, p2.int]
    exact .inl ⟨i, j, rfl, rfl, hv.now r rI q⟩
  · rename_i i j e1 e2
    rw [der_str e1] at p1
    rw [der_str e2] at p2
    rw [p1.str, p2.str]
    exact .inr (.inl ⟨i, j, rfl, rfl, q.1, hv.now r rS q.2⟩)
  · rename_i i j e1 e2
    obtain ⟨a, xs, rfl, h1, s1⟩ := lst_of r p1 e1
    obtain ⟨b, ys, rfl, h2, s2⟩ := lst_of r p2 e2
    exact .inr (.inr (.inl ⟨a, b, xs, ys, rfl, rfl, h1, h2, by rw [s1.length, s2.length]; exact q.1, nl.ok r q.2 (s1.append s2) hv⟩))
  · rename_i i j e1 e2
    rw [der_tup e1] at p1
    rw [der_tup e2] at p2
    have p1' := p1
    have p2' := p2
    obtain ⟨a, xs, rfl, h1, s1⟩ := p1.tup_seq
    obtain ⟨b, ys, rfl, h2, s2⟩ := p2.tup_seq
    refine .inr (.inr (.inr ⟨a, b, xs, ys, rfl, rfl, h1, h2, by rw [s1.length, s2.length]; exact q.1, fun h => ?_, fun h g => ?_, fun h g p n => ?_⟩))
    · have l1 := s1.length
      rw [h] at l1
      have : i = [] := List.length_eq_zero_iff.mp l1.symm
      rw [this, List.nil_append] at q
      exact hv.now r p2' q.2
    · have l1 := s2.length
      rw [g] at l1
      have : j = [] := List.length_eq_zero_iff.mp l1.symm
      rw [this, List.append_nil] at q
      exact hv.now r p1' q.2
    · exact hv _ ω _ _ (Kp.laid n) (r.laid n) (rep_tup_new n (r.not n) (s1.append s2)) q.2
  · exact q.elim⟩
/-- two ints -/
def oI (C : Int → Int → Prop) (g : Int → Int → D) : OD := fun d e ω Q => match d, e with
  | .int i, .int j => C i j ∧ Q (g i j) ω
  | _, _ => False
theorem o_int {f : Value → Value → Sem Value} {C : Int → Int → Prop} {g : Int → Int → V} {g' : Int → Int → D} (h : OpR X f (L2.rI C g)) (hr : ∀ i j H O, Rep X.K H O (g' i j) (g i j)) : DOp X f (oI C g') := ⟨_, h, fun x y H ω d e Q Qd r p1 p2 q hv => by
  unfold oI at q
  split at q
  · rw [p1.int, p2.int]
    exact ⟨_, _, rfl, rfl, q.1, hv.now r (hr _ _ _ _) q.2⟩
  · exact q.elim⟩
theorem o_int0 {f : Value → Value → Sem Value} {g : Int → Int → V} {g' : Int → Int → D} (h : OpR X f (L2.rI0 g)) (hr : ∀ i j H O, Rep X.K H O (g' i j) (g i j)) : DOp X f (oI (fun _ _ => True) g') := ⟨_, h, fun x y H ω d e Q Qd r p1 p2 q hv => by
  unfold oI at q
  split at q
  · rw [p1.int, p2.int]
    exact ⟨_, _, rfl, rfl, hv.now r (hr _ _ _ _) q.2⟩
  · exact q.elim⟩
abbrev oSub : OD := oI (fun _ _ => True) fun i j => .int (i - j)
theorem o_sub : DOp X (binaryOp .Sub) oSub := o_int0 op_sub fun _ _ _ _ => rI
abbrev oMul : OD := oI CMul fun i j => .int (i * j)
theorem o_mul : DOp X (binaryOp .Mult) oMul := o_int op_mul fun _ _ _ _ => rI
abbrev oMod : OD := oI (fun _ j => 0 < j) fun i j => .int (i % j)
theorem o_mod : DOp X (binaryOp .Mod) oMod := o_int op_mod fun _ _ _ _ => rI
abbrev oFdv : OD := oI CDiv fun i j => .int (i / j)
theorem o_fdv : DOp X (binaryOp .FloorDiv) oFdv := o_int op_fdiv fun _ _ _ _ => rI
abbrev oPow : OD := oI CPow fun i j => .int (i ^ j.toNat)
theorem o_pow : DOp X (binaryOp .Pow) oPow := o_int op_pow fun _ _ _ _ => rI
/-- comparisons: two ints or two texts -/
def oCmp (p : Int → Int → Bool) (q : List Nat → List Nat → Bool) : OD := fun d e ω Q => match d, e with
  | .int i, .int j => Q (.bl (p i j)) ω
  | .str i, .str j => Q (.bl (q i.cps.toList j.cps.toList)) ω
  | _, _ => False
theorem o_ord {f : Value → Value → Sem Value} {p : Int → Int → Bool} {g : List Nat → List Nat → Bool} (h : OpR X f (L2.rI0 fun i j => .bl (p i j)))
    (h' : OpR X f (fun x y H Q => ∃ i j, x = .str i ∧ y = .str j ∧ Q (.bl (g i.cps.toList j.cps.toList)) H)) : DOp X f (oCmp p g) := ⟨_, OpR.or h h', fun x y H ω d e Q Qd r p1 p2 q hv => by
  unfold oCmp at q
  split at q
  · rw [p1.int, p2.int]
    exact .inl ⟨_, _, rfl, rfl, hv.now r rB q⟩
  · rw [p1.str, p2.str]
    exact .inr ⟨_, _, rfl, rfl, hv.now r rB q⟩
  · exact q.elim⟩
abbrev oLt : OD := oCmp (fun i j => decide (i < j)) fun a b => decide (a < b)
abbrev oLe : OD := oCmp (fun i j => decide (i ≤ j)) fun a b => !decide (b < a)
abbrev oGt : OD := oCmp (fun i j => decide (j < i)) fun a b => decide (b < a)
abbrev oGe : OD := oCmp (fun i j => decide (j ≤ i)) fun a b => !decide (a < b)
theorem o_lt : DOp X (compareOp .Lt) oLt := o_ord op_lt op_lt_str
theorem o_le : DOp X (compareOp .LtE) oLe := o_ord op_le op_le_str
theorem o_gt : DOp X (compareOp .Gt) oGt := o_ord op_gt op_gt_str
theorem o_ge : DOp X (compareOp .GtE) oGe := o_ord op_ge op_ge_str
/-- is None -/
def isNon : D → Bool
  | .non => true
  | _ => false
def oIsN : OD := fun d e ω Q => match e with
  | .non => Q (.bl (isNon d)) ω
  | _ => False
def oNotN : OD := fun d e ω Q => match e with
  | .non => Q (.bl (!isNon d)) ω
  | _ => False
theorem rep_non_iff {d : D} {v : V} (h : Rep K H O d v) : decide (v = .non) = isNon d := by
  cases d with
  | non => rw [h.non]; rfl
  | tup ds => obtain ⟨a, xs, rfl, _⟩ := h.tup_seq; rfl
  | lst ds => obtain ⟨a, xs, rfl, _⟩ := h.lst_seq; rfl
  | scr ds => obtain ⟨a, xs, rfl, _⟩ := h.scr_seq; rfl
  | dic ds => unfold Rep at h; obtain ⟨a, xs, rfl, _⟩ := h; rfl
  | exn C fs => unfold Rep at h; obtain ⟨a, rfl, _⟩ := h; rfl
  | _ => unfold Rep at h; subst h; rfl
theorem o_isN : DOp X (compareOp .Is) oIsN := ⟨_, op_isN, fun x y H ω d e Q Qd r p1 p2 q hv => by
  unfold oIsN at q
  split at q
  · rw [p2.non]
    exact ⟨rfl, by rw [rep_non_iff p1]; exact hv.now r rB q⟩
  · exact q.elim⟩
theorem o_notN : DOp X (compareOp .IsNot) oNotN := ⟨_, op_notN, fun x y H ω d e Q Qd r p1 p2 q hv => by
  unfold oNotN at q
  split at q
  · rw [p2.non]
    exact ⟨rfl, by rw [rep_non_iff p1]; exact hv.now r rB q⟩
  · exact q.elim⟩
/-! ### in -/
/-- a text's signs in another -/
def subS (x y : Str) : Bool := !(Builtin.Str.occurrences y x 0 y.length 1).isEmpty
def flatD : D → Bool
  | .non => true
  | .bl _ => true
  | .int _ => true
  | .str _ => true
  | _ => false
/-- == of flat data, by the machine's own look -/
def eqF (x y : D) : Bool := match x, y with
  | .non, .non => eqV .non .non
  | .bl a, .bl b => eqV (.bl a) (.bl b)
  | _, _ => eqD x y
def vOf : D → V
  | .non => .non
  | .bl b => .bl b
  | .int i => .int i
  | .str x => .str x
  | .ref a => .ref a
  | .ty n => .ty n
  | _ => .non
theorem vOf_rep {d : D} {v : V} (f : flatD d = true) (h : Rep K H O d v) : v = vOf d ∧ flatV v = true := by
  cases d with
  | non => rw [h.non]; exact ⟨rfl, rfl⟩
  | bl _ => rw [h.bl]; exact ⟨rfl, rfl⟩
  | int _ => rw [h.int]; exact ⟨rfl, rfl⟩
  | str _ => rw [h.str]; exact ⟨rfl, rfl⟩
  | _ => cases f
theorem vOf_reps : ∀ {ds : List D} {vs : List V}, ds.all flatD = true → Reps K H O ds vs → vs = ds.map vOf ∧ vs.all flatV = true
  | [], _, _, h => by unfold Reps at h; subst h; exact ⟨rfl, rfl⟩
  | d :: ds, _, f, h => by
    unfold Reps at h
    obtain ⟨v, r, rfl, p, q⟩ := h
    rw [List.all_cons, Bool.and_eq_true] at f
    obtain ⟨e1, e2⟩ := vOf_rep f.1 p
    obtain ⟨g1, g2⟩ := vOf_reps f.2 q
    refine ⟨by rw [List.map_cons, ← e1, ← g1], ?_⟩
    rw [List.all_cons, e2, g2]; rfl
def inF (x : D) (ds : List D) : Bool := inV (vOf x) (ds.map vOf)
/-- x in y: texts; or a flat thing in a list or tuple of flat things; or any data in a list or tuple of data -/
def oIn (neg : Bool) : OD := fun d e ω Q => match der ω e with
  | .str y => (match d with
    | .str x => Q (.bl (neg ^^ subS x y)) ω
    | _ => False)
  | .lst ds => flatD d = true ∧ ds.all flatD = true ∧ Q (.bl (neg ^^ inF d ds)) ω
  | .tup ds => flatD d = true ∧ ds.all flatD = true ∧ Q (.bl (neg ^^ inF d ds)) ω
  | _ => False
theorem o_in_ent {neg : Bool} {x y : V} {ω : Sto} {d e : D} {Q : VK} {Qd : DQ} (r : RelH K H ω) (p1 : Rep K H (dm ω) d x) (p2 : Rep K H (dm ω) e y) (q : oIn neg d e ω Qd) (hv : Vk K ω H Qd Q) :
    (∃ i j, x = .str i ∧ y = .str j ∧ Q (.bl (neg ^^ subS i j)) H) ∨ rIn K neg x y H Q := by
  unfold oIn at q
  have fin : ∀ {ds : List D} {a : Addr} {xs : List V}, y = .ref a → (SqL K H a xs ∨ SqT K H a xs) → Reps K H (dm ω) ds xs → flatD d = true ∧ ds.all flatD = true ∧ Qd (.bl (neg ^^ inF d ds)) ω → rIn K neg x y H Q := fun {ds a xs} ey hs rs ⟨f1, f2, q⟩ => by
    obtain ⟨e1, g1⟩ := vOf_rep f1 p1
    obtain ⟨e2, g2⟩ := vOf_reps f2 rs
    refine ⟨a, xs, ey, hs, g1, g2, ?_⟩
    have eb : (if neg = true then !inV x xs else inV x xs) = (neg ^^ inF d ds) := by
      unfold inF
      rw [e1, e2]
      cases neg <;> simp
    rw [eb]
    exact hv.now r rB q
  split at q
  · rename_i z e2
    rw [der_str e2] at p2
    split at q
    · rw [p1.str, p2.str]
      exact .inl ⟨_, _, rfl, rfl, hv.now r rB q⟩
    · exact q.elim
  · rename_i ds e2
    obtain ⟨a, xs, ey, h1, s1⟩ := lst_of r p2 e2
    exact .inr (fin ey (.inl (.inl (.inl h1))) s1 q)
  · rename_i ds e2
    obtain ⟨a, xs, ey, h1, s1⟩ := tup_of p2 e2
    exact .inr (fin ey (.inr h1) s1 q)
  · exact q.elim
theorem o_in : DOp X (compareOp .In) (oIn false) := ⟨_, OpR.or op_in_str op_in_seq, fun x y H ω d e Q Qd r p1 p2 q hv => by
  rcases o_in_ent r p1 p2 q hv with ⟨i, j, h1, h2, h3⟩ | h
  · exact .inl ⟨i, j, h1, h2, by rw [Bool.false_xor] at h3; exact h3⟩
  · exact .inr h⟩
theorem o_notIn : DOp X (compareOp .NotIn) (oIn true) := ⟨_, OpR.or op_notIn_str op_notIn_seq, fun x y H ω d e Q Qd r p1 p2 q hv => by
  rcases o_in_ent r p1 p2 q hv with ⟨i, j, h1, h2, h3⟩ | h
  · exact .inl ⟨i, j, h1, h2, by rw [Bool.true_xor] at h3; exact h3⟩
  · exact .inr h⟩
end
end DL
end

section
set_option Elab.async false
set_option linter.all false
set_option maxRecDepth 100000
namespace DL
open PySem PySem.Spec L2
open PyProof.Rows hiding St

/-! ### truth -/
def truD : D → Option Bool
  | .non => some false
  | .bl b => some b
  | .int i => some (i != 0)
  | .str x => some ((x.length : Int) != 0)
  | .lst ds => some (!ds.isEmpty)
  | .tup ds => some (!ds.isEmpty)
  | .dic ds => some (!ds.isEmpty)
  | _ => none
/-- a text is not beyond the line -/
def okTru : D → Prop
  | .str x => x.length ≤ sizeLine
  | _ => True
section
variable {K : PySem.W.Frag} {H : Hp} {O : Addr → Prop} {ω : Sto}
theorem isEmpty_reps {ds : List D} {vs : List V} (h : Reps K H O ds vs) : vs.isEmpty = ds.isEmpty := by
  cases ds with
  | nil => unfold Reps at h; subst h; rfl
  | cons d ds => unfold Reps at h; obtain ⟨v, r, rfl, _⟩ := h; rfl
theorem isEmpty_repk {ds : List (Key × D)} {vs : List (Key × V)} (h : RepK K H O ds vs) : vs.isEmpty = ds.isEmpty := by
  cases ds with
  | nil => unfold RepK at h; subst h; rfl
  | cons d ds => obtain ⟨k, d⟩ := d; unfold RepK at h; obtain ⟨v, r, rfl, _⟩ := h; rfl
theorem Rd.dK {a : Addr} {ws : List (Key × V)} (h : Rd H a (.dK ws)) : H a = some (.dK ws) ∨ ∃ o, H a = some (.frz o (.dK ws)) := h
theorem tru_rep {d : D} {v : V} {k : Bool} (r : RelH K H ω) (p : Rep K H (dm ω) d v) (ok : okTru (der ω d)) (e : truD (der ω d) = some k) (nf : ∀ a o u, H a ≠ some (.frz o (.dK u))) : TruV K v H k := by
  cases z : der ω d with
  | non => rw [z] at e; cases e; rw [der_non z] at p; rw [p.non]; rfl
  | bl b => rw [z] at e; cases e; rw [der_bl z] at p; rw [p.bl]; rfl
  | int b => rw [z] at e; cases e; rw [der_int z] at p; rw [p.int]; rfl
  | str b => rw [z] at e ok; cases e; rw [der_str z] at p; rw [p.str]; exact ⟨ok, rfl⟩
  | tup ds =>
    rw [z] at e; cases e
    obtain ⟨a, xs, rfl, h, s⟩ := tup_of p z
    exact .inr (.inl ⟨xs, h, by rw [isEmpty_reps s]⟩)
  | lst ds =>
    rw [z] at e; cases e
    obtain ⟨a, xs, rfl, h, s⟩ := lst_of r p z
    exact .inl ⟨xs, .inl (.inl h), by rw [isEmpty_reps s]⟩
  | dic ds =>
    rw [z] at e; cases e
    obtain ⟨a, xs, rfl, h, s⟩ := dic_of r p z
    rcases h with h | ⟨o, h⟩
    · exact .inr (.inr ⟨xs, h, by rw [isEmpty_repk s]⟩)
    · exact (nf _ _ _ h).elim
  | ref _ => rw [z] at e; cases e
  | scr _ => rw [z] at e; cases e
  | exn _ _ => rw [z] at e; cases e
  | ty _ => rw [z] at e; cases e
end
/-- no dict's truth is asked: what is not a dict -/
def noDic : D → Prop
  | .dic _ => False
  | _ => True
theorem tru_rep' {K : PySem.W.Frag} {H : Hp} {ω : Sto} {d : D} {v : V} {k : Bool} (r : RelH K H ω) (p : Rep K H (dm ω) d v) (ok : okTru (der ω d)) (nd : noDic (der ω d)) (e : truD (der ω d) = some k) : TruV K v H k := by
  cases z : der ω d with
  | non => rw [z] at e; cases e; rw [der_non z] at p; rw [p.non]; rfl
  | bl b => rw [z] at e; cases e; rw [der_bl z] at p; rw [p.bl]; rfl
  | int b => rw [z] at e; cases e; rw [der_int z] at p; rw [p.int]; rfl
  | str b => rw [z] at e ok; cases e; rw [der_str z] at p; rw [p.str]; exact ⟨ok, rfl⟩
  | tup ds =>
    rw [z] at e; cases e
    obtain ⟨a, xs, rfl, h, s⟩ := tup_of p z
    exact .inr (.inl ⟨xs, h, by rw [isEmpty_reps s]⟩)
  | lst ds =>
    rw [z] at e; cases e
    obtain ⟨a, xs, rfl, h, s⟩ := lst_of r p z
    exact .inl ⟨xs, .inl (.inl h), by rw [isEmpty_reps s]⟩
  | dic ds => rw [z] at nd; exact nd.elim
  | ref _ => rw [z] at e; cases e
  | scr _ => rw [z] at e; cases e
  | exn _ _ => rw [z] at e; cases e
  | ty _ => rw [z] at e; cases e
/-- the truth of a value, told to what follows -/
def tru (d : D) (ω : Sto) (Q : Bool → Prop) : Prop := okTru (der ω d) ∧ noDic (der ω d) ∧ match truD (der ω d) with
  | some k => Q k
  | none => False
theorem tru.at {K : PySem.W.Frag} {H : Hp} {ω : Sto} {d : D} {v : V} {Q : Bool → Prop} (h : tru d ω Q) (r : RelH K H ω) (p : Rep K H (dm ω) d v) : ∃ k, TruV K v H k ∧ Q k := by
  obtain ⟨h1, h2, h3⟩ := h
  split at h3
  · rename_i k e
    exact ⟨k, tru_rep' r p h1 h2 e, h3⟩
  · exact h3.elim
section
variable {X : Cx} {W : WX} {e a b c : Expr} {es rest : List Expr} {te ta tb tc : DTE} {tt tu : DTT} {tas : DTA} {pos : Pos}
def dTru (t : DTE) : DTT := fun ρ ω Q E => t ρ ω (fun d ω1 => tru d ω1 fun k => Q k ω1) E
theorem dt_tru (ha : DE X W a ta) (he : ∀ whole, isTrue a X.env whole = (do let v ← whole; standAt a.pos; holding [v] (truthy v)) := by intro _; rfl) : DT X W a (dTru ta) := pt_imp (pt_truth ha he) fun σ H Q ⟨ρ, ω, Qd, Ed, a, q, hv, hx⟩ =>
  ⟨ρ, ω, _, Ed, a, q, fun d ω1 v H1 k1 r1 p1 q1 => let ⟨k, h1, h2⟩ := tru.at q1 r1 p1; ⟨k, h1, hv k ω1 H1 k1 r1 h2⟩, hx⟩
/-! ### and, or, not: tests -/
abbrev DW (X : Cx) (W : WX) (e : Expr) (t : DTT) : Prop := PW X e (cT X.K W t)
def dAnd (t u : DTT) : DTT := fun ρ ω Q E => t ρ ω (fun k ω1 => if k = true then u ρ ω1 Q E else Q false ω1) E
def dOr (t u : DTT) : DTT := fun ρ ω Q E => t ρ ω (fun k ω1 => if k = true then Q true ω1 else u ρ ω1 Q E) E
def dNot (t : DTT) : DTT := fun ρ ω Q E => t ρ ω (fun k ω1 => Q (!k) ω1) E
theorem dw_and1 (ha : DT X W a tt) : DW X W (.BoolOp .And [a] pos) tt := pw_and1 ha
theorem dw_or1 (ha : DT X W a tt) : DW X W (.BoolOp .Or [a] pos) tt := pw_or1 ha
theorem dw_and (ha : DT X W a tt) (hb : DW X W (.BoolOp .And (b :: rest) pos) tu) : DW X W (.BoolOp .And (a :: b :: rest) pos) (dAnd tt tu) := pw_imp (pw_and ha hb) fun σ H Q ⟨ρ, ω, Qd, Ed, a, q, hv, he⟩ =>
  ⟨ρ, ω, _, Ed, a, q, fun k ω1 H1 k1 r1 q1 => by
    cases k with
    | true => exact ⟨ρ, ω1, _, Ed, a.on k1 r1, q1, fun b ω2 H2 k2 => hv b ω2 H2 (k1.trans k2), he.on k1⟩
    | false => exact hv _ _ _ k1 r1 q1, he⟩
theorem dw_or (ha : DT X W a tt) (hb : DW X W (.BoolOp .Or (b :: rest) pos) tu) : DW X W (.BoolOp .Or (a :: b :: rest) pos) (dOr tt tu) := pw_imp (pw_or ha hb) fun σ H Q ⟨ρ, ω, Qd, Ed, a, q, hv, he⟩ =>
  ⟨ρ, ω, _, Ed, a, q, fun k ω1 H1 k1 r1 q1 => by
    cases k with
    | false => exact ⟨ρ, ω1, _, Ed, a.on k1 r1, q1, fun b ω2 H2 k2 => hv b ω2 H2 (k1.trans k2), he.on k1⟩
    | true => exact hv _ _ _ k1 r1 q1, he⟩
theorem dt_of (h : DW X W e tt) : DT X W e tt := PW.pt h
theorem dt_not (ha : DT X W a tt) : DT X W (.UnaryOp .Not a pos) (dNot tt) := pt_imp (pt_not ha) fun σ H Q ⟨ρ, ω, Qd, Ed, a, q, hv, he⟩ => ⟨ρ, ω, _, Ed, a, q, fun k ω1 H1 k1 r1 q1 => hv _ ω1 H1 k1 r1 q1, he⟩
/-! ### the same as values -/
def dAndV (t u : DTE) : DTE := fun ρ ω Q E => t ρ ω (fun d ω1 => tru d ω1 fun k => if k = true then u ρ ω1 Q E else Q d ω1) E
def dOrV (t u : DTE) : DTE := fun ρ ω Q E => t ρ ω (fun d ω1 => tru d ω1 fun k => if k = true then Q d ω1 else u ρ ω1 Q E) E
def dNotV (t : DTE) : DTE := fun ρ ω Q E => t ρ ω (fun d ω1 => tru d ω1 fun k => Q (.bl (!k)) ω1) E
theorem de_one {op} (h : DE X W a ta) : DE X W (.BoolOp op [a] pos) ta := pe_one h
theorem de_and (ha : DE X W a ta) (hb : DE X W (.BoolOp .And (b :: rest) pos) tb) : DE X W (.BoolOp .And (a :: b :: rest) pos) (dAndV ta tb) := pe_imp (pe_andT ha hb) fun σ H Q ⟨ρ, ω, Qd, Ed, a, q, hv, he⟩ =>
  ⟨ρ, ω, _, Ed, a, q, fun d ω1 v H1 k1 r1 p1 q1 => by
    obtain ⟨k, h1, h2⟩ := tru.at q1 r1 p1
    refine ⟨k, h1, ?_⟩
    by_cases h : k = true
    · rw [if_pos h] at h2 ⊢
      exact ⟨ρ, ω1, _, Ed, a.on k1 r1, h2, hv.on k1, he.on k1⟩
    · rw [if_neg h] at h2 ⊢
      exact hv _ _ _ _ k1 r1 p1 h2, he⟩
theorem de_or (ha : DE X W a ta) (hb : DE X W (.BoolOp .Or (b :: rest) pos) tb) : DE X W (.BoolOp .Or (a :: b :: rest) pos) (dOrV ta tb) := pe_imp (pe_orT ha hb) fun σ H Q ⟨ρ, ω, Qd, Ed, a, q, hv, he⟩ =>
  ⟨ρ, ω, _, Ed, a, q, fun d ω1 v H1 k1 r1 p1 q1 => by
    obtain ⟨k, h1, h2⟩ := tru.at q1 r1 p1
    refine ⟨k, h1, ?_⟩
    by_cases h : k = true
    · rw [if_pos h] at h2 ⊢
      exact hv _ _ _ _ k1 r1 p1 h2
    · rw [if_neg h] at h2 ⊢
      exact ⟨ρ, ω1, _, Ed, a.on k1 r1, h2, hv.on k1, he.on k1⟩, he⟩
theorem de_not (ha : DE X W a ta) : DE X W (.UnaryOp .Not a pos) (dNotV ta) := pe_imp (pe_notT ha) fun σ H Q ⟨ρ, ω, Qd, Ed, a, q, hv, he⟩ =>
  ⟨ρ, ω, _, Ed, a, q, fun d ω1 v H1 k1 r1 p1 q1 => let ⟨k, h1, h2⟩ := tru.at q1 r1 p1; ⟨k, h1, hv _ _ _ _ k1 r1 rB h2⟩, he⟩
/-- a if c else b -/
def dIf (t : DTT) (ta tb : DTE) : DTE := fun ρ ω Q E => t ρ ω (fun k ω1 => if k = true then ta ρ ω1 Q E else tb ρ ω1 Q E) E
theorem de_if (hc : DT X W c tt) (ha : DE X W a ta) (hb : DE X W b tb) : DE X W (.IfExp c a b pos) (dIf tt ta tb) := pe_imp (pe_ifExp hc ha hb) fun σ H Q ⟨ρ, ω, Qd, Ed, a, q, hv, he⟩ =>
  ⟨ρ, ω, _, Ed, a, q, fun k ω1 H1 k1 r1 q1 => by
    cases k with
    | true => exact ⟨ρ, ω1, _, Ed, a.on k1 r1, q1, hv.on k1, he.on k1⟩
    | false => exact ⟨ρ, ω1, _, Ed, a.on k1 r1, q1, hv.on k1, he.on k1⟩, he⟩
/-- -n -/
def dNeg (t : DTE) : DTE := fun ρ ω Q E => t ρ ω (fun d ω1 => match d with
  | .int i => Q (.int (-i)) ω1
  | _ => False) E
theorem de_neg (ha : DE X W a ta) : DE X W (.UnaryOp .USub a pos) (dNeg ta) := pe_imp (pe_un un_neg ha) fun σ H Q ⟨ρ, ω, Qd, Ed, a, q, hv, he⟩ =>
  ⟨ρ, ω, _, Ed, a, q, fun d ω1 v H1 k1 r1 p1 q1 => by
    cases d with
    | int i => rw [p1.int]; exact ⟨_, rfl, hv _ _ _ _ k1 r1 rI q1⟩
    | _ => exact q1.elim, he⟩
/-! ### a[i] -/
theorem Reps.atI {K : PySem.W.Frag} {H : Hp} {O : Addr → Prop} {ds : List D} {vs : List V} {i : Int} {z : D} (h : Reps K H O ds vs) (e : atI ds i = some z) : ∃ v, L2.atI vs i = some v ∧ Rep K H O z v := by
  unfold L2.atI at e ⊢
  rw [h.length]
  cases q : ixN ds.length i with
  | none => rw [q] at e; cases e
  | some j =>
    rw [q] at e
    exact h.get e
/-- an item by its key -/
def keyD : D → Option Key
  | .int i => some (.inl i)
  | .str x => some (.inr x)
  | _ => none
theorem rep_key {K : PySem.W.Frag} {H : Hp} {O : Addr → Prop} {e : D} {y : V} {k : Key} (h : Rep K H O e y) (q : keyD e = some k) : y = kV k := by
  cases e with
  | int i => cases q; exact h.int
  | str i => cases q; exact h.str
  | _ => cases q
def valD (ds : List (Key × D)) (k : Key) : Option D := (ds.find? fun kv => decide (kv.1 = k)).map (·.2)
theorem repk_val {K : PySem.W.Frag} {H : Hp} {O : Addr → Prop} {k : Key} : ∀ {ds : List (Key × D)} {ws : List (Key × V)}, RepK K H O ds ws → (∀ d, valD ds k = some d → ∃ v, valV ws k = some v ∧ Rep K H O d v) ∧ (valD ds k = none → valV ws k = none)
  | [], _, h => by
    unfold RepK at h; subst h
    exact ⟨fun d e => (by cases e), fun _ => rfl⟩
  | (x, d) :: ds, _, h => by
    unfold RepK at h
    obtain ⟨v, r, rfl, p, q⟩ := h
    obtain ⟨h1, h2⟩ := repk_val (k := k) q
    unfold valV valD at h1 h2 ⊢
    by_cases e : x = k
    · subst e
      simp only [List.find?_cons, decide_true, Option.map_some]
      exact ⟨fun d' e => (by cases e; exact ⟨v, rfl, p⟩), fun e => (by cases e)⟩
    · simp only [List.find?_cons, e, decide_false]
      exact ⟨h1, h2⟩
/-- what a thing with items hands back at an index -/
inductive Ixd where
  | it (d : D) | no
def ixAt : D → D → Option D
  | .lst ds, .int i => atI ds i
  | .scr ds, .int i => atI ds i
  | .tup ds, .int i => atI ds i
  | .str z, .int i => (atI z.cps.toList i).map fun c => .str ⟨#[c]⟩
  | _, _ => none
def okIx : D → Prop
  | .str z => z.length ≤ sizeLine
  | _ => True
def oIx : OD := fun d e ω Q => okIx (der ω d) ∧ match ixAt (der ω d) e with
  | some z => Q z ω
  | none => False
theorem o_ix_ent {K : PySem.W.Frag} {H : Hp} {x y : V} {ω : Sto} {d e : D} {Q : VK} {Qd : DQ} (r : RelH K H ω) (p1 : Rep K H (dm ω) d x) (p2 : Rep K H (dm ω) e y) (q : oIx d e ω Qd) (hv : Vk K ω H Qd Q) : rIx K x y H Q := by
  obtain ⟨ok, q⟩ := q
  cases z : der ω d with
  | lst ds =>
    rw [z] at q
    cases e with
    | int i =>
      split at q
      · rename_i w h
        obtain ⟨a, xs, rfl, h1, s1⟩ := lst_of r p1 z
        obtain ⟨v, h2, s2⟩ := s1.atI h
        exact .inl ⟨a, xs, i, v, rfl, p2.int, .inl (.inl h1), h2, hv.now r s2 q⟩
      · exact q.elim
    | _ => exact q.elim
  | scr ds =>
    rw [z] at q
    rw [der_scr z] at p1
    cases e with
    | int i =>
      split at q
      · rename_i w h
        obtain ⟨a, xs, rfl, h1, s1⟩ := p1.scr_seq
        obtain ⟨v, h2, s2⟩ := s1.atI h
        exact .inl ⟨a, xs, i, v, rfl, p2.int, h1, h2, hv.now r s2 q⟩
      · exact q.elim
    | _ => exact q.elim
  | tup ds =>
    rw [z] at q
    cases e with
    | int i =>
      split at q
      · rename_i w h
        obtain ⟨a, xs, rfl, h1, s1⟩ := tup_of p1 z
        obtain ⟨v, h2, s2⟩ := s1.atI h
        exact .inr (.inl ⟨a, xs, i, v, rfl, p2.int, h1, h2, hv.now r s2 q⟩)
      · exact q.elim
    | _ => exact q.elim
  | str t =>
    rw [z] at q ok
    rw [der_str z] at p1
    cases e with
    | int i =>
      split at q
      · rename_i w h
        cases g : atI t.cps.toList i with
        | none => have h' : (atI t.cps.toList i).map _ = some w := h; rw [g] at h'; cases h'
        | some c =>
          have h' : (atI t.cps.toList i).map _ = some w := h
          rw [g] at h'
          cases h'
          exact .inr (.inr ⟨t, i, c, p1.str, p2.int, ok, g, hv.now r rS q⟩)
      · exact q.elim
    | _ => exact q.elim
  | _ => rw [z] at q; exact q.elim
theorem de_ix (ha : DE X W a ta) (hb : DE X W b tb) (hs : PlainIx b := by intro _ _; rfl) : DE X W (.Subscript a b pos) (dOp oIx ta tb) :=
  pe_imp (pe_ix ix_seq ha hb hs) (ent_op fun _ _ _ _ _ _ _ _ r p1 p2 q hv => o_ix_ent r p1 p2 q hv)
/-- d[k] of a dict -/
def oDget : OD := fun d e ω Q => match der ω d, keyD e with
  | .dic ds, some k => (match valD ds k with
    | some z => Q z ω
    | none => False)
  | _, _ => False
theorem de_dget (hu : X.A.units + 1 < cLine) (ha : DE X W a ta) (hb : DE X W b tb) (hs : NoSl b := by intro _ _; rfl) : DE X W (.Subscript a b pos) (dOp oDget ta tb) := pe_imp (pe_dget hu ha hb hs) fun σ H Q ⟨ρ, ω, Qd, Ed, a, q, hv, he⟩ =>
  ⟨ρ, ω, _, Ed, a, q, fun d ω1 v H1 k1 r1 p1 q1 => ⟨ρ, ω1, _, Ed, a.on k1 r1, q1, fun e ω2 u H2 k2 r2 p2 q2 => by
    have q2 : oDget d e ω2 Qd := q2
    unfold oDget at q2
    split at q2
    · rename_i ds k e1 e2
      split at q2
      · rename_i z e3
        obtain ⟨a, xs, rfl, h1, s1⟩ := dic_of r2 (p1.keep k2) e1
        obtain ⟨w, h2, s2⟩ := (repk_val (k := k) s1).1 z e3
        exact ⟨a, w, rfl, .inl ⟨xs, k, h1, rep_key p2 e2, h2.symm⟩, hv _ _ _ _ (k1.trans k2) r2 s2 q2⟩
      · exact q2.elim
    · exact q2.elim, he.on k1⟩, he⟩
end
end DL
end

section
set_option Elab.async false
set_option linter.all false
set_option maxRecDepth 100000
namespace DL
open PySem PySem.Spec L2
open PyProof.Rows hiding St
section
variable {X : Cx} {W : WX} {e a b c : Expr} {es rest : List Expr} {te ta tb tc : DTE} {tt tu : DTT} {tas : DTA} {pos p2 : Pos}
/-! ### slices -/
abbrev DTO := Rho → Sto → (Option Int → Sto → Prop) → DX → Prop
def cO (K : PySem.W.Frag) (W : WX) (t : DTO) : TO := fun σ H Q => ∃ ρ ω Qd Ed, At K σ H ρ ω ∧ t ρ ω Qd Ed ∧
  (∀ o ω' H', Kp (dm ω) H (dm ω') H' → RelH K H' ω' → Qd o ω' → Q o H') ∧ Ek K W σ ω H Ed
abbrev DO (X : Cx) (W : WX) (e : Option Expr) (t : DTO) : Prop := PO X e (cO X.K W t)
theorem po_imp {X : Cx} {e : Option Expr} {t t' : TO} (h : PO X e t) (i : ∀ σ H Q, t' σ H Q → t σ H Q) : PO X e t' := ⟨fun pins s σ H Q I q => h.run pins s σ H Q I (i _ _ _ q)⟩
def dNoP : DTO := fun _ ω Q _ => Q none ω
def dP (t : DTE) : DTO := fun ρ ω Q E => t ρ ω (fun d ω1 => match d with
  | .int i => Q (some i) ω1
  | _ => False) E
theorem do_no : DO X W none dNoP := po_imp po_none fun σ H Q ⟨ρ, ω, Qd, Ed, a, q, hv, he⟩ => hv none ω H Kp.refl a.h q
theorem do_p (h : DE X W e te) : DO X W (some e) (dP te) := po_imp (po_some h) fun σ H Q ⟨ρ, ω, Qd, Ed, a, q, hv, he⟩ =>
  ⟨ρ, ω, _, Ed, a, q, fun d ω1 v H1 k1 r1 p1 q1 => by
    cases d with
    | int i => exact ⟨i, p1.int, hv _ _ _ k1 r1 q1⟩
    | _ => exact q1.elim, he⟩
def cutL {α : Type} (xs : List α) (lo hi : Option Int) : List α := (xs.drop (HT.sIx xs.length 0 lo)).take (HT.sIx xs.length xs.length hi - HT.sIx xs.length 0 lo)
theorem cutL_V (xs : List V) (lo hi : Option Int) : cutV xs lo hi = cutL xs lo hi := rfl
theorem Reps.cut {K : PySem.W.Frag} {H : Hp} {O : Addr → Prop} {ds : List D} {vs : List V} (lo hi : Option Int) (h : Reps K H O ds vs) : Reps K H O (cutL ds lo hi) (cutL vs lo hi) := by
  unfold cutL
  rw [h.length]
  exact (h.drop _).take _
/-- a[lo:hi] -/
def oSl (m : Bool) (d : D) (lo hi : Option Int) (ω : Sto) (Q : DQ) : Prop := match der ω d with
  | .lst ds => nl m (cutL ds lo hi) ω Q
  | .scr ds => nl m (cutL ds lo hi) ω Q
  | .tup ds => Q (.tup (cutL ds lo hi)) ω
  | .str z => z.length ≤ sizeLine ∧ Q (.str (cutS z lo hi)) ω
  | _ => False
theorem oSl_ent {K : PySem.W.Frag} {H : Hp} {ω : Sto} {d : D} {v : V} {lo hi : Option Int} {m : Bool} {Qd : DQ} {Q : VK} (r : RelH K H ω) (p : Rep K H (dm ω) d v) (q : oSl m d lo hi ω Qd) (hv : Vk K ω H Qd Q) :
    rSlL K v lo hi H Q ∨ rSlA K v lo hi H Q ∨ rSlS v lo hi H Q := by
  unfold oSl at q
  split at q
  · rename_i ds e
    obtain ⟨a, xs, rfl, h, s⟩ := lst_of r p e
    exact .inl ⟨a, xs, rfl, .inl (.inl h), nl.ok r q (s.cut lo hi) hv⟩
  · rename_i ds e
    rw [der_scr e] at p
    obtain ⟨a, xs, rfl, h, s⟩ := p.scr_seq
    exact .inl ⟨a, xs, rfl, h, nl.ok r q (s.cut lo hi) hv⟩
  · rename_i ds e
    rw [der_tup e] at p
    have p' := p
    obtain ⟨a, xs, rfl, h, s⟩ := p.tup_seq
    refine .inr (.inl ⟨a, xs, rfl, h, fun ⟨h1, h2⟩ => ?_, fun h1 b n => ?_⟩)
    · have e2 : cutL ds lo hi = ds := by
        rw [s.length] at h1 h2
        unfold cutL
        rw [h1, h2, Nat.sub_zero, List.drop_zero, List.take_length]
      rw [e2] at q
      exact hv.now r p' q
    · exact hv _ ω _ _ (Kp.laid n) (r.laid n) (rep_tup_new n (r.not n) (s.cut lo hi)) q
  · rename_i z e
    rw [der_str e] at p
    exact .inr (.inr ⟨z, p.str, q.1, hv.now r rS q.2⟩)
  · exact q.elim
def dSl (m : Bool) (t : DTE) (tl th : DTO) : DTE := fun ρ ω Q E => t ρ ω (fun d ω1 => tl ρ ω1 (fun lo ω2 => th ρ ω2 (fun hi ω3 => oSl m d lo hi ω3 Q) E) E) E
theorem de_sl {lo hi : Option Expr} {tl th : DTO} (m : Bool) (he : DE X W e te) (hl : DO X W lo tl) (hh : DO X W hi th) : DE X W (.Subscript e (.Slice lo hi none p2) pos) (dSl m te tl th) :=
  pe_imp (pe_slice (sl_list.or (sl_tupA.or sl_str)) he hl hh) fun σ H Q ⟨ρ, ω, Qd, Ed, a, q, hv, hx⟩ =>
  ⟨ρ, ω, _, Ed, a, q, fun d ω1 v H1 k1 r1 p1 q1 => ⟨ρ, ω1, _, Ed, a.on k1 r1, q1, fun lo ω2 H2 k2 r2 q2 => ⟨ρ, ω2, _, Ed, a.on (k1.trans k2) r2, q2, fun hi ω3 H3 k3 r3 q3 =>
    oSl_ent r3 (p1.keep (k2.trans k3)) q3 (hv.on ((k1.trans k2).trans k3)), hx.on (k1.trans k2)⟩, hx.on k1⟩, hx⟩

/-! ### calls of built-ins -/
abbrev OC := List D → Sto → DQ → Prop
structure DCl (X : Cx) (f : Value) (od : OC) : Prop where
  ok : ∃ r, CallR X f r ∧ ∀ xs H ω ds Q Qd, RelH X.K H ω → Reps X.K H (dm ω) ds xs → od ds ω Qd → Vk X.K ω H Qd Q → r xs H Q
def dCl (od : OC) (t : DTA) : DTE := fun ρ ω Q E => t ρ ω (fun ds ω1 => od ds ω1 Q) E
theorem ent_cl {K : PySem.W.Frag} {r : List V → Hp → VK → Prop} {od : OC} (h : ∀ xs H ω ds Q Qd, RelH K H ω → Reps K H (dm ω) ds xs → od ds ω Qd → Vk K ω H Qd Q → r xs H Q) (σ : St) (H : Hp) (Q : VK) (q : cE K W (dCl od tas) σ H Q) : tCB r (cA K W tas) σ H Q := by
  obtain ⟨ρ, ω, Qd, Ed, a, q, hv, hx⟩ := q
  exact ⟨ρ, ω, _, Ed, a, q, fun ds ω1 vs H1 k1 r1 p1 q1 => h vs H1 ω1 ds Q Qd r1 p1 q1 (hv.on k1), hx⟩
theorem de_callB {x : Str} {p : Pos} {id : String} {od : OC} (hc : DCl X (.builtin id) od) (hg : Gl X x) (hm : X.mg x = none) (ha : DA X W (e :: es) tas) (hv : bootBuiltins x = some (.builtin id) := by decide +kernel) (hn : x ≠ "__name__" := by decide) (hdb : (x == ("__debug__" : Str)) = false := by decide)
    (he : starEach (e :: es) X.env = (false, eval e X.env) :: starEach es X.env := by rfl) (hpl : (backTo pos (starEach es X.env)).any (·.1) = false := by rfl) : DE X W (.Call (.Name x p) (e :: es) [] pos) (dCl od tas) := by
  obtain ⟨r, h1, h2⟩ := hc.ok
  exact pe_imp (pe_callB h1 hg hm hv ha hn hdb he hpl) (ent_cl h2)
theorem de_callT {x : Str} {p : Pos} {T : String} {od : OC} (hc : DCl X (.type T) od) (hg : Gl X x) (hm : X.mg x = none) (ha : DA X W (e :: es) tas) (hv : bootBuiltins x = some (.type T) := by decide +kernel) (hn : x ≠ "__name__" := by decide) (hdb : (x == ("__debug__" : Str)) = false := by decide)
    (he : starEach (e :: es) X.env = (false, eval e X.env) :: starEach es X.env := by rfl) (hpl : (backTo pos (starEach es X.env)).any (·.1) = false := by rfl) : DE X W (.Call (.Name x p) (e :: es) [] pos) (dCl od tas) := by
  obtain ⟨r, h1, h2⟩ := hc.ok
  exact pe_imp (pe_callTy h1 hg hm hv ha hn hdb he hpl) (ent_cl h2)
/-- a built-in type as a value -/
theorem de_type {x : Str} {T : String} (hg : Gl X x) (hm : X.mg x = none) (hv : bootBuiltins x = some (.type T) := by decide +kernel) (hn : x ≠ "__name__" := by decide) (hdb : (x == ("__debug__" : Str)) = false := by decide) : DE X W (.Name x pos) (dK (.ty T)) :=
  de_k (pe_bltn (v := .ty T) hg hm hv rfl hn hdb) fun _ _ => rTy
theorem reps1 {K : PySem.W.Frag} {H : Hp} {O : Addr → Prop} {d : D} {vs : List V} (h : Reps K H O [d] vs) : ∃ v, vs = [v] ∧ Rep K H O d v := by
  unfold Reps at h
  obtain ⟨v, r, rfl, p, q⟩ := h
  unfold Reps at q
  exact ⟨v, by rw [q], p⟩
theorem reps2 {K : PySem.W.Frag} {H : Hp} {O : Addr → Prop} {d e : D} {vs : List V} (h : Reps K H O [d, e] vs) : ∃ v u, vs = [v, u] ∧ Rep K H O d v ∧ Rep K H O e u := by
  unfold Reps at h
  obtain ⟨v, r, rfl, p, q⟩ := h
  obtain ⟨u, rfl, p2⟩ := reps1 q
  exact ⟨v, u, rfl, p, p2⟩
/-- len -/
def lenD : D → Option Nat
  | .lst ds => some ds.length
  | .scr ds => some ds.length
  | .tup ds => some ds.length
  | .str z => some z.length
  | _ => none
def oLen : OC := fun ds ω Q => match ds with
  | [d] => okIx (der ω d) ∧ (match lenD (der ω d) with
    | some n => Q (.int n) ω
    | none => False)
  | _ => False
theorem c_len : DCl X (.builtin "len") oLen := ⟨_, call_len, fun xs H ω ds Q Qd r p q hv => by
  unfold oLen at q
  split at q
  · rename_i d
    replace p := reps1 p
    obtain ⟨v, rfl, p⟩ := p
    obtain ⟨ok, q⟩ := q
    split at q
    · rename_i n e
      refine ⟨v, n, rfl, ?_, hv.now r rI q⟩
      cases z : der ω d with
      | lst es =>
        rw [z] at e; cases e
        obtain ⟨a, xs, rfl, h, s⟩ := lst_of r p z
        exact .inl ⟨xs, .inl (.inl h), s.length.symm⟩
      | scr es =>
        rw [z] at e; cases e
        rw [der_scr z] at p
        obtain ⟨a, xs, rfl, h, s⟩ := p.scr_seq
        exact .inl ⟨xs, h, s.length.symm⟩
      | tup es =>
        rw [z] at e; cases e
        obtain ⟨a, xs, rfl, h, s⟩ := tup_of p z
        exact .inr ⟨xs, h, s.length.symm⟩
      | str t =>
        rw [z] at e ok; cases e
        rw [der_str z] at p
        rw [p.str]
        exact ⟨ok, rfl⟩
      | _ => rw [z] at e; cases e
    · exact q.elim
  · exact q.elim⟩
/-- of ints -/
def oI1 (g : Int → D) : OC := fun ds ω Q => match ds with
  | [.int i] => Q (g i) ω
  | _ => False
def oI2 (C : Int → Int → Prop) (g : Int → Int → D) : OC := fun ds ω Q => match ds with
  | [.int i, .int j] => C i j ∧ Q (g i j) ω
  | _ => False
abbrev oAbs : OC := oI1 fun i => .int (if i < 0 then -i else i)
theorem c_abs : DCl X (.builtin "abs") oAbs := ⟨_, call_abs, fun xs H ω ds Q Qd r p q hv => by
  unfold oAbs oI1 at q
  split at q
  · replace p := reps1 p
    obtain ⟨v, rfl, p⟩ := p
    exact ⟨_, by rw [p.int], hv.now r rI q⟩
  · exact q.elim⟩
def oInt : OC := fun ds ω Q => match ds with
  | [.int i] => Q (.int i) ω
  | [.bl b] => Q (.int (if b then 1 else 0)) ω
  | _ => False
theorem c_int : DCl X (.type "int") oInt := ⟨_, call_int1, fun xs H ω ds Q Qd r p q hv => by
  unfold oInt at q
  split at q
  · replace p := reps1 p
    obtain ⟨v, rfl, p⟩ := p
    exact .inl ⟨_, by rw [p.int], hv.now r rI q⟩
  · replace p := reps1 p
    obtain ⟨v, rfl, p⟩ := p
    exact .inr ⟨_, by rw [p.bl], hv.now r rI q⟩
  · exact q.elim⟩
abbrev oMax : OC := oI2 (fun _ _ => True) fun i j => .int (if j > i then j else i)
abbrev oMin : OC := oI2 (fun _ _ => True) fun i j => .int (if j < i then j else i)
theorem c_max (hc : X.calm = true) : DCl X (.builtin "max") oMax := ⟨_, call_max2 hc, fun xs H ω ds Q Qd r p q hv => by
  unfold oMax oI2 at q
  split at q
  · obtain ⟨v, u, rfl, p1, p2⟩ := reps2 p
    exact ⟨_, _, by rw [p1.int, p2.int], hv.now r rI q.2⟩
  · exact q.elim⟩
theorem c_min (hc : X.calm = true) : DCl X (.builtin "min") oMin := ⟨_, call_min2 hc, fun xs H ω ds Q Qd r p q hv => by
  unfold oMin oI2 at q
  split at q
  · obtain ⟨v, u, rfl, p1, p2⟩ := reps2 p
    exact ⟨_, _, by rw [p1.int, p2.int], hv.now r rI q.2⟩
  · exact q.elim⟩
abbrev oDivm : OC := oI2 CDiv fun i j => .tup [.int (i / j), .int (i % j)]
theorem c_divm : DCl X (.builtin "divmod") oDivm := ⟨_, call_divmod, fun xs H ω ds Q Qd r p q hv => by
  unfold oDivm oI2 at q
  split at q
  · obtain ⟨v, u, rfl, p1, p2⟩ := reps2 p
    refine ⟨_, _, by rw [p1.int, p2.int], q.1, fun a n => hv _ ω _ _ (Kp.laid n) (r.laid n) (rep_tup_new n (r.not n) (Reps.cons rI (Reps.cons rI Reps.nil))) q.2⟩
  · exact q.elim⟩
/-- str of an int -/
def oStr : OC := fun ds ω Q => match ds with
  | [.int i] => i.natAbs.log2 < 1920 ∧ Q (.str (toString i)) ω
  | [.str x] => Q (.str x) ω
  | _ => False
theorem call_strS : CallR X (.type "str") (fun xs H Q => ∃ a, xs = [.str a] ∧ Q (.str a) H) := by
  intro pins s σ H xs us Q I r h
  obtain ⟨a, rfl, q⟩ := h
  obtain ⟨u, rfl, ru⟩ := vals1 r
  obtain ⟨t, rfl⟩ := ru
  exact PySem.P.str_of_str ⟨.str a, H, I, ⟨t, rfl⟩, q⟩
theorem c_str : DCl X (.type "str") oStr := ⟨_, CallR.or call_str_int call_strS, fun xs H ω ds Q Qd r p q hv => by
  unfold oStr at q
  split at q
  · replace p := reps1 p
    obtain ⟨v, rfl, p⟩ := p
    exact .inl ⟨_, by rw [p.int], q.1, hv.now r rS q.2⟩
  · replace p := reps1 p
    obtain ⟨v, rfl, p⟩ := p
    exact .inr ⟨_, by rw [p.str], hv.now r rS q⟩
  · exact q.elim⟩
/-- list(x), tuple(x) -/
def oList (m : Bool) : OC := fun ds ω Q => match ds with
  | [d] => (match der ω d with
    | .lst es => nl m es ω Q
    | .tup es => nl m es ω Q
    | _ => False)
  | _ => False
theorem c_list (m : Bool) : DCl X (.type "list") (oList m) := ⟨_, call_list_of, fun xs H ω ds Q Qd r p q hv => by
  unfold oList at q
  split at q
  · rename_i d
    replace p := reps1 p
    obtain ⟨v, rfl, p⟩ := p
    split at q
    · rename_i es e
      obtain ⟨a, xs, rfl, h, s⟩ := lst_of r p e
      exact ⟨a, xs, rfl, .inl (.inl (.inl h)), nl.ok r q s hv⟩
    · rename_i es e
      obtain ⟨a, xs, rfl, h, s⟩ := tup_of p e
      exact ⟨a, xs, rfl, .inr h, nl.ok r q s hv⟩
    · exact q.elim
  · exact q.elim⟩
def oTup : OC := fun ds ω Q => match ds with
  | [d] => (match der ω d with
    | .lst es => Q (.tup es) ω
    | .tup es => Q (.tup es) ω
    | _ => False)
  | _ => False
theorem c_tup : DCl X (.type "tuple") oTup := ⟨_, call_tuple_of, fun xs H ω ds Q Qd r p q hv => by
  unfold oTup at q
  split at q
  · rename_i d
    replace p := reps1 p
    obtain ⟨v, rfl, p⟩ := p
    split at q
    · rename_i es e
      obtain ⟨a, xs, rfl, h, s⟩ := lst_of r p e
      exact ⟨a, xs, rfl, .inl ⟨.inl (.inl h), fun b n => hv _ ω _ _ (Kp.laid n) (r.laid n) (rep_tup_new n (r.not n) s) q⟩⟩
    · rename_i es e
      rw [der_tup e] at p
      have p' := p
      obtain ⟨a, xs, rfl, h, s⟩ := p.tup_seq
      exact ⟨a, xs, rfl, .inr ⟨h, hv.now r p' q⟩⟩
    · exact q.elim
  · exact q.elim⟩
/-- bools all -/
def blsOf : List D → Option (List Bool)
  | [] => some []
  | .bl b :: ds => (blsOf ds).map (b :: ·)
  | _ :: _ => none
def intsOf : List D → Option (List Int)
  | [] => some []
  | .int b :: ds => (intsOf ds).map (b :: ·)
  | _ :: _ => none
def strsOf : List D → Option (List Str)
  | [] => some []
  | .str b :: ds => (strsOf ds).map (b :: ·)
  | _ :: _ => none
theorem bls_rep {K : PySem.W.Frag} {H : Hp} {O : Addr → Prop} : ∀ {ds : List D} {vs : List V} {bs : List Bool}, Reps K H O ds vs → blsOf ds = some bs → vs = bs.map V.bl
  | [], _, _, h, e => by unfold Reps at h; subst h; cases e; rfl
  | d :: ds, _, _, h, e => by
    unfold Reps at h
    obtain ⟨v, r, rfl, p, q⟩ := h
    cases d with
    | bl b =>
      unfold blsOf at e
      cases g : blsOf ds with
      | none => rw [g] at e; cases e
      | some cs => rw [g] at e; cases e; rw [p.bl, bls_rep q g]; rfl
    | _ => cases e
theorem ints_rep {K : PySem.W.Frag} {H : Hp} {O : Addr → Prop} : ∀ {ds : List D} {vs : List V} {bs : List Int}, Reps K H O ds vs → intsOf ds = some bs → vs = bs.map V.int
  | [], _, _, h, e => by unfold Reps at h; subst h; cases e; rfl
  | d :: ds, _, _, h, e => by
    unfold Reps at h
    obtain ⟨v, r, rfl, p, q⟩ := h
    cases d with
    | int b =>
      unfold intsOf at e
      cases g : intsOf ds with
      | none => rw [g] at e; cases e
      | some cs => rw [g] at e; cases e; rw [p.int, ints_rep q g]; rfl
    | _ => cases e
theorem strs_rep {K : PySem.W.Frag} {H : Hp} {O : Addr → Prop} : ∀ {ds : List D} {vs : List V} {bs : List Str}, Reps K H O ds vs → strsOf ds = some bs → vs = bs.map V.str
  | [], _, _, h, e => by unfold Reps at h; subst h; cases e; rfl
  | d :: ds, _, _, h, e => by
    unfold Reps at h
    obtain ⟨v, r, rfl, p, q⟩ := h
    cases d with
    | str b =>
      unfold strsOf at e
      cases g : strsOf ds with
      | none => rw [g] at e; cases e
      | some cs => rw [g] at e; cases e; rw [p.str, strs_rep q g]; rfl
    | _ => cases e
theorem reps_strs {K : PySem.W.Frag} {H : Hp} {O : Addr → Prop} : ∀ (bs : List Str), Reps K H O (bs.map D.str) (bs.map V.str)
  | [] => Reps.nil
  | b :: bs => Reps.cons rS (reps_strs bs)
theorem reps_ints {K : PySem.W.Frag} {H : Hp} {O : Addr → Prop} : ∀ (bs : List Int), Reps K H O (bs.map D.int) (bs.map V.int)
  | [] => Reps.nil
  | b :: bs => Reps.cons rI (reps_ints bs)
def itemsD (ω : Sto) (d : D) : Option (List D) := match der ω d with
  | .lst es => some es
  | _ => none
theorem itemsD_of {K : PySem.W.Frag} {H : Hp} {ω : Sto} {d : D} {v : V} {es : List D} (r : RelH K H ω) (p : Rep K H (dm ω) d v) (e : itemsD ω d = some es) : ∃ a xs, v = .ref a ∧ SqL K H a xs ∧ Reps K H (dm ω) es xs := by
  unfold itemsD at e
  split at e
  · rename_i ds z
    cases e
    obtain ⟨a, xs, h1, h2, h3⟩ := lst_of r p z
    exact ⟨a, xs, h1, .inl (.inl h2), h3⟩
  · cases e
def oAll : OC := fun ds ω Q => match ds with
  | [d] => (match (itemsD ω d).bind blsOf with
    | some bs => Q (.bl (bs.all id)) ω
    | none => False)
  | _ => False
def oAny : OC := fun ds ω Q => match ds with
  | [d] => (match (itemsD ω d).bind blsOf with
    | some bs => Q (.bl (bs.any id)) ω
    | none => False)
  | _ => False
def oSum : OC := fun ds ω Q => match ds with
  | [d] => (match (itemsD ω d).bind intsOf with
    | some bs => Q (.int bs.sum) ω
    | none => False)
  | _ => False
theorem c_all (hc : X.calm = true) : DCl X (.builtin "all") oAll := ⟨_, cr_all hc, fun xs H ω ds Q Qd r p q hv => by
  unfold oAll at q
  split at q
  · replace p := reps1 p
    obtain ⟨v, rfl, p⟩ := p
    split at q
    · rename_i bs e
      obtain ⟨es, e1, e2⟩ := Option.bind_eq_some_iff.mp e
      obtain ⟨a, xs, rfl, h, s⟩ := itemsD_of r p e1
      exact ⟨a, bs, rfl, by rw [← bls_rep s e2]; exact h, hv.now r rB q⟩
    · exact q.elim
  · exact q.elim⟩
theorem c_any (hc : X.calm = true) : DCl X (.builtin "any") oAny := ⟨_, cr_any hc, fun xs H ω ds Q Qd r p q hv => by
  unfold oAny at q
  split at q
  · replace p := reps1 p
    obtain ⟨v, rfl, p⟩ := p
    split at q
    · rename_i bs e
      obtain ⟨es, e1, e2⟩ := Option.bind_eq_some_iff.mp e
      obtain ⟨a, xs, rfl, h, s⟩ := itemsD_of r p e1
      exact ⟨a, bs, rfl, by rw [← bls_rep s e2]; exact h, hv.now r rB q⟩
    · exact q.elim
  · exact q.elim⟩
theorem c_sum (hc : X.calm = true) : DCl X (.builtin "sum") oSum := ⟨_, cr_sum hc, fun xs H ω ds Q Qd r p q hv => by
  unfold oSum at q
  split at q
  · replace p := reps1 p
    obtain ⟨v, rfl, p⟩ := p
    split at q
    · rename_i bs e
      obtain ⟨es, e1, e2⟩ := Option.bind_eq_some_iff.mp e
      obtain ⟨a, xs, rfl, h, s⟩ := itemsD_of r p e1
      exact ⟨a, bs, rfl, by rw [← ints_rep s e2]; exact h, hv.now r rI q⟩
    · exact q.elim
  · exact q.elim⟩
/-! ### isinstance -/
def tyN : D → Option String
  | .non => some "NoneType"
  | .bl _ => some "bool"
  | .int _ => some "int"
  | .str _ => some "str"
  | .tup _ => some "tuple"
  | .lst _ => some "list"
  | .dic _ => some "dict"
  | _ => none
def isT (t T : String) : Bool := t == T || (t == "bool" && T == "int")
def tyOk (T : String) : Bool := ["int", "bool", "str", "tuple", "list", "dict"].contains T
theorem kit_all : ∀ t ∈ ["NoneType", "bool", "int", "str", "tuple", "list", "dict"], ∀ T ∈ ["int", "bool", "str", "tuple", "list", "dict"], kitB t T = some (isT t T) := by decide +kernel
theorem tyN_mem {d : D} {t : String} (h : tyN d = some t) : t ∈ ["NoneType", "bool", "int", "str", "tuple", "list", "dict"] := by
  cases d <;> cases h <;> decide
theorem tyx_of {K : PySem.W.Frag} {H : Hp} {ω : Sto} {d : D} {v : V} {t : String} (r : RelH K H ω) (p : Rep K H (dm ω) d v) (e : tyN (der ω d) = some t) : TyX K H v (.type t) := by
  cases z : der ω d with
  | non => rw [z] at e; cases e; rw [der_non z] at p; rw [p.non]; exact .base .non
  | bl b => rw [z] at e; cases e; rw [der_bl z] at p; rw [p.bl]; exact .base (.bl _)
  | int b => rw [z] at e; cases e; rw [der_int z] at p; rw [p.int]; exact .base (.int _)
  | str b => rw [z] at e; cases e; rw [der_str z] at p; rw [p.str]; exact .base (.str _)
  | tup es =>
    rw [z] at e; cases e
    obtain ⟨a, xs, rfl, h, s⟩ := tup_of p z
    rcases h with (h | ⟨o, h⟩) | ⟨o, its, n, h1, h2, _⟩
    · exact .base (.tup h)
    · exact .fTuple h
    · exact .kTuple h1 h2
  | lst es =>
    rw [z] at e; cases e
    obtain ⟨a, xs, rfl, h, s⟩ := lst_of r p z
    exact .base (.lst h)
  | dic es =>
    rw [z] at e; cases e
    obtain ⟨a, xs, rfl, h, s⟩ := dic_of r p z
    rcases h with h | ⟨o, h⟩
    · exact .base (.dK h)
    · exact .fDict h
  | ref _ => rw [z] at e; cases e
  | scr _ => rw [z] at e; cases e
  | exn _ _ => rw [z] at e; cases e
  | ty _ => rw [z] at e; cases e
def oIsi : OC := fun ds ω Q => match ds with
  | [d, .ty T] => tyOk T = true ∧ (match tyN (der ω d) with
    | some t => Q (.bl (isT t T)) ω
    | none => False)
  | _ => False
theorem c_isi : DCl X (.builtin "isinstance") oIsi := ⟨_, call_isi, fun xs H ω ds Q Qd r p q hv => by
  unfold oIsi at q
  split at q
  · rename_i d T
    obtain ⟨v, u, rfl, p1, p2⟩ := reps2 p
    obtain ⟨ok, q⟩ := q
    split at q
    · rename_i t e
      refine ⟨v, u, .type t, .type T, isT t T, rfl, by rw [p2.ty]; exact .ty T, tyx_of r p1 e, kit_ty (kit_all t (tyN_mem e) T (by unfold tyOk at ok; simpa using ok)), hv.now r rB q⟩
    · exact q.elim
  · exact q.elim⟩
end
end DL
end

section
set_option Elab.async false
set_option linter.all false
set_option maxRecDepth 100000
namespace DL
open PySem PySem.Spec L2
open PyProof.Rows hiding St

/-! ### where a body runs -/
structure Good (X : Cx) (k : Nat) (W : WX) : Prop where
  calm : X.calm = true
  room : Room k X.A
  gd : X.A.guards = some []
  tk : Takes X W
  po : PassesOwn (model X.prog X.w) X.A X.env X.xe
  nd : X.N.Nodup
theorem Good.u1 {X : Cx} {k : Nat} {W : WX} (g : Good X k W) : X.A.units + 1 < cLine := by have := g.room.un; omega
theorem Good.u64 {X : Cx} {k : Nat} {W : WX} (g : Good X k W) : X.A.units + 64 < cLine := by have := g.room.un; omega
theorem Good.u65 {X : Cx} {k : Nat} {W : WX} (g : Good X k W) : X.A.units + 65 < cLine := by have := g.room.un; omega
/-! ### a def's promise over data -/
abbrev DSp := List D → Sto → DQ → DX → Prop
def cSp (K : PySem.W.Frag) (dsp : DSp) : Sp := fun vs H Q E => ∃ ds ω Qd Ed, Reps K H (dm ω) ds vs ∧ RelH K H ω ∧ dsp ds ω Qd Ed ∧ Vk K ω H Qd Q ∧
  ∀ x ω' cls dd H', Kp (dm ω) H (dm ω') H' → RelH K H' ω' → RepX K H' (dm ω') x cls dd → Ed x ω' → E cls dd H'
structure FnG (P : Program) (w : World) (K : PySem.W.Frag) (mg : Str → Option Value) (base : Heap) (k : Nat) (f : Addr) (fd : FuncData) (ps : List Str) (dsp : DSp) : Prop where
  len : ∀ ds ω Qd Ed, dsp ds ω Qd Ed → ds.length = ps.length
  run : ∀ (A : Around) (fr : List Env) (s : Shared) (H : Hp) (args : Args) (us : List Value) (vs : List V) (Q : VK) (E : XK), Room k A → A.guards = some [] → Env0 P w K mg base A fr s H →
    BindsTo s fd args (ps.zip us) → Vals vs us → cSp K dsp vs H Q E → codeAny (model P w) A (.call (.ref f) args) (CR (L2.CX P w) fr P w H s Q E) s
theorem FnG.mono {P : Program} {w : World} {K : PySem.W.Frag} {mg : Str → Option Value} {base : Heap} {j k : Nat} {f : Addr} {fd : FuncData} {ps : List Str} {dsp : DSp} (F : FnG P w K mg base j f fd ps dsp) (h : j ≤ k) : FnG P w K mg base k f fd ps dsp :=
  ⟨F.len, fun A fr s H args us vs Q E r => F.run A fr s H args us vs Q E (r.mono h)⟩
theorem FnG.imp {P : Program} {w : World} {K : PySem.W.Frag} {mg : Str → Option Value} {base : Heap} {k : Nat} {f : Addr} {fd : FuncData} {ps : List Str} {dsp dsp' : DSp} (F : FnG P w K mg base k f fd ps dsp) (h : ∀ ds ω Q E, dsp' ds ω Q E → dsp ds ω Q E) : FnG P w K mg base k f fd ps dsp' :=
  ⟨fun ds ω Q E q => F.len ds ω Q E (h _ _ _ _ q), fun A fr s H args us vs Q E r g e b v ⟨ds, ω, Qd, Ed, h1, h2, h3, h4⟩ => F.run A fr s H args us vs Q E r g e b v ⟨ds, ω, Qd, Ed, h1, h2, h _ _ _ _ h3, h4⟩⟩
section
variable {X : Cx} {W : WX} {k : Nat} {f : Addr} {fd : FuncData} {ps : List Str} {dsp : DSp}
theorem run_fnG {pins : List (Addr × Obj)} {σ : St} {H : Hp} {s : Shared} {Q : VK} {us : List Value} {vs : List V} (g : Good X k W) (F : FnG X.prog X.w X.K X.mg X.base k f fd ps dsp) (hb : Binds X.K fd ps []) (I : Inv X pins σ H s) (r : Vals vs us)
    (h : cSp X.K dsp vs H Q (fun c d H' => W c d σ H')) : wpAny (model X.prog X.w) X.A (call (.ref f) us) (EP X pins σ Q) X.xe s := by
  have hl : (us ++ []).length = ps.length := by
    obtain ⟨ds, ω, Qd, Ed, h1, _, h3, _⟩ := h
    rw [List.append_nil, ← r.length, h1.length]
    exact F.len _ _ _ _ h3
  have hb' := hb s us I.kIn hl
  rw [List.append_nil] at hb'
  refine wpAny_call (codeAny_mono (F.run X.A X.stack s H ⟨us, []⟩ us vs Q _ g.room g.gd I.env0 hb' r h) fun o s' q => ?_)
  cases o with
  | error e => exact g.tk e s' (XE.of_call I (fun _ _ _ z => z) q)
  | ok fl => cases fl with
    | ret u => exact I.after q
    | next => exact q.elim
    | brk => exact q.elim
    | cont => exact q.elim
/-- f(e, ..) -/
def dCall (dsp : DSp) (t : DTA) : DTE := fun ρ ω Q E => t ρ ω (fun ds ω1 => dsp ds ω1 Q E) E
theorem ent_call {K : PySem.W.Frag} {tas : DTA} (σ : St) (H : Hp) (Q : VK) (q : cE K W (dCall dsp tas) σ H Q) : cA K W tas σ H (fun vs H1 => cSp K dsp vs H1 Q (fun c d H' => W c d σ H')) := by
  obtain ⟨ρ, ω, Qd, Ed, a, q, hv, he⟩ := q
  exact ⟨ρ, ω, _, Ed, a, q, fun ds ω1 vs H1 k1 r1 p1 q1 => ⟨ds, ω1, Qd, Ed, p1, r1, q1, hv.on k1, fun x ω' cls dd H' k' => he x ω' cls dd H' (k1.trans k')⟩, he⟩
/-- a def that stands in the module -/
structure Cal (P : Program) (w : World) (K : PySem.W.Frag) (mg : Str → Option Value) (base : Heap) (k : Nat) (x : Str) (ps : List Str) (dsp : DSp) : Prop where
  ex : ∃ f fd, mg x = some (.ref f) ∧ PySem.W.keepIn K (.ref f) = true ∧ Binds K fd ps [] ∧ FnG P w K mg base k f fd ps dsp
theorem Cal.mono {P : Program} {w : World} {K : PySem.W.Frag} {mg : Str → Option Value} {base : Heap} {j k : Nat} {x : Str} {ps : List Str} {dsp : DSp} (c : Cal P w K mg base j x ps dsp) (h : j ≤ k) : Cal P w K mg base k x ps dsp :=
  let ⟨f, fd, a, b, d, e⟩ := c.ex; ⟨f, fd, a, b, d, e.mono h⟩
theorem Cal.imp {P : Program} {w : World} {K : PySem.W.Frag} {mg : Str → Option Value} {base : Heap} {k : Nat} {x : Str} {ps : List Str} {dsp dsp' : DSp} (c : Cal P w K mg base k x ps dsp) (h : ∀ ds ω Q E, dsp' ds ω Q E → dsp ds ω Q E) : Cal P w K mg base k x ps dsp' :=
  let ⟨f, fd, a, b, d, e⟩ := c.ex; ⟨f, fd, a, b, d, e.imp h⟩
variable {x : Str} {p pos : Pos} {e : Expr} {es : List Expr} {tas : DTA} {j : Nat}
theorem de_call (g : Good X k W) (c : Cal X.prog X.w X.K X.mg X.base j x ps dsp) (ha : DA X W (e :: es) tas) (hg : Gl X x := by rfl) (hj : j ≤ k := by decide) (hd : (x == ("__debug__" : Str)) = false := by decide)
    (he : starEach (e :: es) X.env = (false, eval e X.env) :: starEach es X.env := by rfl) (hpl : (backTo pos (starEach es X.env)).any (·.1) = false := by rfl) : DE X W (.Call (.Name x p) (e :: es) [] pos) (dCall dsp tas) := by
  obtain ⟨f, fd, hm, hk, hb, F⟩ := c.ex
  refine ⟨fun pins s σ H Q I h => ?_⟩
  refine wpAny_Call_Name_kw (ld_glob I hg hm ?_ hd)
  refine PySem.W.callWith_K (h₀ := X.base) I.ok.mod.kin hk (thn (ha.run pos pins s σ H _ I (ent_call σ H Q h)) fun us s1 ⟨vs, H1, I1, r, q⟩ => ⟨I1.kIn, ?_⟩) he hpl
  exact run_fnG g (F.mono hj) hb I1 r q
theorem de_call0 (g : Good X k W) (c : Cal X.prog X.w X.K X.mg X.base j x ps dsp) (hg : Gl X x := by rfl) (hj : j ≤ k := by decide) (hd : (x == ("__debug__" : Str)) = false := by decide) : DE X W (.Call (.Name x p) [] [] pos) (dCall dsp dNil) := by
  obtain ⟨f, fd, hm, hk, hb, F⟩ := c.ex
  refine ⟨fun pins s σ H Q I h => ?_⟩
  refine wpAny_Call_Name_kw (ld_glob I hg hm ?_ hd)
  refine PySem.W.callWith_K0 I.kIn hk (run_fnG (us := []) (vs := []) g (F.mono hj) hb I .nil ?_)
  obtain ⟨ρ, ω, Qd, Ed, a, q, hv, he⟩ := h
  exact ⟨[], ω, Qd, Ed, Reps.nil, a.h, q, hv, fun x ω' cls dd H' k' => he x ω' cls dd H' k'⟩
end
/-! ### repr -/
section
variable {X : Cx} {W : WX} {k : Nat}
mutual
def deep : D → Nat
  | .tup ds => deeps ds + 1
  | .lst ds => deeps ds + 1
  | .non => 0
  | .bl _ => 0
  | .int _ => 0
  | .str _ => 0
  | .ty _ => 0
  | .ref _ => 0
  | .dic _ => 0
  | .scr _ => 0
  | .exn _ _ => 0
def deeps : List D → Nat
  | [] => 0
  | d :: ds => max (deep d) (deeps ds)
end
/-- what may be shown -/
def okShow (d : D) : Prop := plainD d = true ∧ (py d).showable = true ∧ (py d).depth ≤ 60 ∧ (py d).shown.length ≤ sizeLine
def oRepr : OC := fun ds ω Q => match ds with
  | [d] => okShow (der ω d) ∧ Q (.str (py (der ω d)).shown) ω
  | _ => False
mutual
theorem noDict_py : ∀ {d : D}, plainD d = true → (py d).hasDict = false
  | .non, _ => rfl
  | .bl _, _ => rfl
  | .int _, _ => rfl
  | .str _, _ => rfl
  | .tup ds, h => by unfold py PyData.hasDict; unfold plainD at h; exact noDict_pys h
  | .lst ds, h => by unfold py PyData.hasDict; unfold plainD at h; exact noDict_pys h
  | .dic _, h => by unfold plainD at h; cases h
  | .ty _, h => by unfold plainD at h; cases h
  | .ref _, h => by unfold plainD at h; cases h
  | .scr _, h => by unfold plainD at h; cases h
  | .exn _ _, h => by unfold plainD at h; cases h
theorem noDict_pys : ∀ {ds : List D}, plainDs ds = true → PyData.hasDictAll (pys ds) = false
  | [], _ => rfl
  | d :: ds, h => by
    unfold plainDs at h
    rw [Bool.and_eq_true] at h
    unfold pys PyData.hasDictAll
    rw [noDict_py h.1, noDict_pys h.2]
    rfl
end
theorem call_reprD (hg : X.A.guards = some []) (hu : X.A.units + 64 < cLine) : CallR X (.builtin "repr") (fun xs H Q => ∃ x d, xs = [x] ∧ Dp X.K H x d ∧ d.showable = true ∧ d.hasDict = false ∧ d.depth ≤ 60 ∧ d.shown.length ≤ sizeLine ∧ Q (.str d.shown) H) := by
  intro pins s σ H xs us Q I r h
  obtain ⟨x, d, rfl, hd, h1, h2, h3, h4, q⟩ := h
  obtain ⟨u, rfl, ru⟩ := vals1 r
  obtain ⟨as, rd⟩ := Dp.reads I d x u hd ru
  have hno : d.hasDict = true → sysModules ∉ as := fun z => by rw [h2] at z; cases z
  cases rd with
  | none => exact PySem.P.repr_of_none ⟨.str _, H, I.tok _, ⟨_, rfl⟩, q⟩
  | bool b => exact PySem.P.repr_of_bool ⟨.str _, H, I.tok _, ⟨_, rfl⟩, q⟩
  | int i t => exact PySem.P.repr_of_int (by simpa [PyData.showable] using h1) ⟨.str _, H, I.tok _, ⟨_, rfl⟩, q⟩
  | str y t => exact PySem.P.repr_of_str ⟨.str _, H, I.tok _, ⟨_, rfl⟩, q⟩ h4
  | list a1 a2 a3 a4 => exact repr_of_reads' (.list a1 a2 a3 a4) h1 hno hg (by omega) (fun _ _ e => e) (fun h' u' tk kp => ⟨.str _, H, I.kept (t' := tk) kp, ⟨_, rfl⟩, q⟩) h4
  | tuple a1 a2 a3 a4 => exact repr_of_reads' (.tuple a1 a2 a3 a4) h1 hno hg (by omega) (fun _ _ e => e) (fun h' u' tk kp => ⟨.str _, H, I.kept (t' := tk) kp, ⟨_, rfl⟩, q⟩) h4
  | dict a1 a2 a3 a4 a5 => unfold PyData.hasDict at h2; cases h2
theorem c_repr (g : Good X k W) : DCl X (.builtin "repr") oRepr := ⟨_, call_reprD g.gd g.u64, fun xs H ω ds Q Qd r p q hv => by
  unfold oRepr at q
  split at q
  · rename_i d
    obtain ⟨v, rfl, p1⟩ := reps1 p
    obtain ⟨⟨h1, h2, h3, h4⟩, q⟩ := q
    exact ⟨v, _, rfl, dp_der r p1 h1, h2, noDict_py h1, h3, h4, hv.now r rS q⟩
  · exact q.elim⟩
end
end DL
end

section
set_option Elab.async false
set_option linter.all false
set_option maxRecDepth 100000
namespace DL
open PySem PySem.Spec L2
open PyProof.Rows hiding St

/-! ### statements -/
structure DEn where
  nx : Rho → Sto → Prop
  rt : D → Sto → Prop
  bk : Rho → Sto → Prop := fun _ _ => False
  ct : Rho → Sto → Prop := fun _ _ => False
  ex : Exn → Rho → Sto → Prop := fun _ _ _ => False
abbrev DTS := DEn → Rho → Sto → Prop
structure Dk (K : PySem.W.Frag) (W : WX) (ω : Sto) (H : Hp) (DD : DEn) (T : Ends) : Prop where
  nx : ∀ ρ' ω' σ' H', Kp (dm ω) H (dm ω') H' → At K σ' H' ρ' ω' → DD.nx ρ' ω' → T.nx σ' H'
  rt : Vk K ω H DD.rt T.rt
  bk : ∀ ρ' ω' σ' H', Kp (dm ω) H (dm ω') H' → At K σ' H' ρ' ω' → DD.bk ρ' ω' → T.bk σ' H'
  ct : ∀ ρ' ω' σ' H', Kp (dm ω) H (dm ω') H' → At K σ' H' ρ' ω' → DD.ct ρ' ω' → T.ct σ' H'
  ex : ∀ x ρ' ω' cls dd σ' H', Kp (dm ω) H (dm ω') H' → At K σ' H' ρ' ω' → RepX K H' (dm ω') x cls dd → DD.ex x ρ' ω' → W cls dd σ' H'
theorem Dk.on {K : PySem.W.Frag} {W : WX} {ω ω1 : Sto} {H H1 : Hp} {DD : DEn} {T : Ends} (k : Dk K W ω H DD T) (p : Kp (dm ω) H (dm ω1) H1) : Dk K W ω1 H1 DD T :=
  ⟨fun ρ' ω' σ' H' q => k.nx ρ' ω' σ' H' (p.trans q), k.rt.on p, fun ρ' ω' σ' H' q => k.bk ρ' ω' σ' H' (p.trans q), fun ρ' ω' σ' H' q => k.ct ρ' ω' σ' H' (p.trans q),
    fun x ρ' ω' cls dd σ' H' q => k.ex x ρ' ω' cls dd σ' H' (p.trans q)⟩
/-- exceptions out of an expression at ρ -/
abbrev xk (DD : DEn) (ρ : Rho) : DX := fun x ω => DD.ex x ρ ω
theorem Dk.xk {K : PySem.W.Frag} {W : WX} {ω : Sto} {H : Hp} {DD : DEn} {T : Ends} {σ : St} {ρ : Rho} (k : Dk K W ω H DD T) (a : At K σ H ρ ω) : Ek K W σ ω H (xk DD ρ) :=
  fun x ω' cls dd H' p r q z => k.ex x ρ ω' cls dd σ H' p (a.on p r) q z
def cS (K : PySem.W.Frag) (W : WX) (t : DTS) : TS := fun T σ H => ∃ ρ ω DD, At K σ H ρ ω ∧ t DD ρ ω ∧ Dk K W ω H DD T
abbrev DS (X : Cx) (W : WX) (st : Stmt) (t : DTS) : Prop := PS X st (cS X.K W t)
abbrev DSs (X : Cx) (W : WX) (st : List Stmt) (t : DTS) : Prop := PSs X st (cS X.K W t)
theorem ps_imp {X : Cx} {st : Stmt} {t t' : TS} (h : PS X st t) (i : ∀ T σ H, t' T σ H → t T σ H) : PS X st t' := ⟨fun pins s σ H T I q => h.run pins s σ H T I (i _ _ _ q)⟩
theorem pss_imp {X : Cx} {st : List Stmt} {t t' : TS} (h : PSs X st t) (i : ∀ T σ H, t' T σ H → t T σ H) : PSs X st t' := ⟨fun pins s σ H T I q => h.run pins s σ H T I (i _ _ _ q)⟩
section
variable {X : Cx} {W : WX} {k : Nat} {st : Stmt} {sts b1 b2 : List Stmt} {t u : DTS} {e a b c : Expr} {es : List Expr} {te ta tb : DTE} {tt : DTT} {tas : DTA} {pos : Pos}
def dNx : DTS := fun DD ρ ω => DD.nx ρ ω
def dSeq (t u : DTS) : DTS := fun DD ρ ω => t { DD with nx := u DD } ρ ω
theorem ds_nil : DSs X W [] dNx := pss_imp pss_nil fun T σ H ⟨ρ, ω, DD, a, q, k⟩ => k.nx _ _ _ _ Kp.refl a q
theorem ds_cons (h1 : DS X W st t) (h2 : DSs X W sts u) : DSs X W (st :: sts) (dSeq t u) := pss_imp (pss_cons h1 h2) fun T σ H ⟨ρ, ω, DD, a, q, k⟩ =>
  ⟨ρ, ω, { DD with nx := u DD }, a, q, ⟨fun ρ' ω' σ' H' p a' q' => ⟨ρ', ω', DD, a', q', k.on p⟩, k.rt, k.bk, k.ct, k.ex⟩⟩
theorem ds_one (h1 : DS X W st t) : DSs X W [st] t := pss_one h1
theorem ds_pass : DS X W (.Pass pos) dNx := ps_imp ps_pass fun T σ H ⟨ρ, ω, DD, a, q, k⟩ => k.nx _ _ _ _ Kp.refl a q
def dBk : DTS := fun DD ρ ω => DD.bk ρ ω
def dCt : DTS := fun DD ρ ω => DD.ct ρ ω
theorem ds_break : DS X W (.Break pos) dBk := ps_imp ps_break fun T σ H ⟨ρ, ω, DD, a, q, k⟩ => k.bk _ _ _ _ Kp.refl a q
theorem ds_cont : DS X W (.Continue pos) dCt := ps_imp ps_continue fun T σ H ⟨ρ, ω, DD, a, q, k⟩ => k.ct _ _ _ _ Kp.refl a q
def dExp (te : DTE) : DTS := fun DD ρ ω => te ρ ω (fun _ ω1 => DD.nx ρ ω1) (xk DD ρ)
theorem ds_exp (he : DE X W e te) (hs : swapsWith e none pos.line X.env = pure false := by rfl) : DS X W (.Expr e pos) (dExp te) := ps_imp (ps_expr he hs) fun T σ H ⟨ρ, ω, DD, a, q, k⟩ =>
  ⟨ρ, ω, _, _, a, q, fun d ω1 v H1 k1 r1 p1 q1 => k.nx _ _ _ _ k1 (a.on k1 r1) q1, k.xk a⟩
def dRet (te : DTE) : DTS := fun DD ρ ω => te ρ ω DD.rt (xk DD ρ)
theorem ds_ret (he : DE X W e te) : DS X W (.Return (some e) pos) (dRet te) := ps_imp (ps_ret he) fun T σ H ⟨ρ, ω, DD, a, q, k⟩ => ⟨ρ, ω, _, _, a, q, k.rt, k.xk a⟩
def dIfS (c : DTT) (t u : DTS) : DTS := fun DD ρ ω => c ρ ω (fun b ω1 => if b = true then t DD ρ ω1 else u DD ρ ω1) (xk DD ρ)
theorem ds_if (hc : DT X W c tt) (ha : DSs X W b1 t) (hb : DSs X W b2 u) : DS X W (.If c b1 b2 pos) (dIfS tt t u) := ps_imp (ps_if hc ha hb) fun T σ H ⟨ρ, ω, DD, a, q, k⟩ =>
  ⟨ρ, ω, _, _, a, q, fun b ω1 H1 k1 r1 q1 => by
    cases b with
    | true => exact ⟨ρ, ω1, DD, a.on k1 r1, q1, k.on k1⟩
    | false => exact ⟨ρ, ω1, DD, a.on k1 r1, q1, k.on k1⟩, k.xk a⟩
/-! ### targets -/
abbrev DTG := D → Rho → Sto → (Rho → Sto → Prop) → Prop
abbrev DTGs := List D → Rho → Sto → (Rho → Sto → Prop) → Prop
/-- what a store finds -/
def Gk (K : PySem.W.Frag) (ω : Sto) (H : Hp) (Qd : Rho → Sto → Prop) (Q : St → Hp → Prop) : Prop := ∀ ρ' ω' σ' H', Kp (dm ω) H (dm ω') H' → At K σ' H' ρ' ω' → Qd ρ' ω' → Q σ' H'
theorem Gk.on {K : PySem.W.Frag} {ω ω1 : Sto} {H H1 : Hp} {Qd : Rho → Sto → Prop} {Q : St → Hp → Prop} (g : Gk K ω H Qd Q) (p : Kp (dm ω) H (dm ω1) H1) : Gk K ω1 H1 Qd Q := fun ρ' ω' σ' H' q => g ρ' ω' σ' H' (p.trans q)
def cG (K : PySem.W.Frag) (t : DTG) : TG := fun v σ H Q => ∃ ρ ω d Qd, At K σ H ρ ω ∧ Rep K H (dm ω) d v ∧ t d ρ ω Qd ∧ Gk K ω H Qd Q
def cGs (K : PySem.W.Frag) (t : DTGs) : TGs := fun vs σ H Q => ∃ ρ ω ds Qd, At K σ H ρ ω ∧ Reps K H (dm ω) ds vs ∧ t ds ρ ω Qd ∧ Gk K ω H Qd Q
abbrev DG (X : Cx) (tg : Expr) (t : DTG) : Prop := PG X tg (cG X.K t)
abbrev DGs (X : Cx) (tg : List Expr) (t : DTGs) : Prop := PGs X tg (cGs X.K t)
theorem pg_imp {X : Cx} {tg : Expr} {t t' : TG} (h : PG X tg t) (i : ∀ v σ H Q, t' v σ H Q → t v σ H Q) : PG X tg t' := ⟨fun pins s σ H v u Q I r q => h.run pins s σ H v u Q I r (i _ _ _ _ q)⟩
theorem pgs_imp {X : Cx} {tg : List Expr} {t t' : TGs} (h : PGs X tg t) (i : ∀ v σ H Q, t' v σ H Q → t v σ H Q) : PGs X tg t' := ⟨fun pins s σ H v u Q I r q => h.run pins s σ H v u Q I r (i _ _ _ _ q)⟩
def gN (i : Nat) : DTG := fun d ρ ω Q => Q (ρ.set i (some d)) ω
theorem dg_name {i : Nat} {x : Str} (h : PG X (.Name x pos) (gName i)) : DG X (.Name x pos) (gN i) := pg_imp h fun v σ H Q ⟨ρ, ω, d, Qd, a, r, q, g⟩ => g _ _ _ _ Kp.refl ⟨a.s.set i r, a.h⟩ q
def gsNil : DTGs := fun ds ρ ω Q => match ds with
  | [] => Q ρ ω
  | _ :: _ => False
def gsCons (t : DTG) (u : DTGs) : DTGs := fun ds ρ ω Q => match ds with
  | d :: r => t d ρ ω fun ρ1 ω1 => u r ρ1 ω1 Q
  | [] => False
theorem dgs_nil : DGs X [] gsNil := pgs_imp pgs_nil fun vs σ H Q ⟨ρ, ω, ds, Qd, a, r, q, g⟩ => by
  cases ds with
  | nil => unfold Reps at r; exact ⟨r, g _ _ _ _ Kp.refl a q⟩
  | cons d ds => exact q.elim
theorem dgs_cons {t : DTG} {u : DTGs} (h1 : DG X e t) (h2 : DGs X es u) (hs : (assignEach (e :: es) X.env).map (·.2) = assign e X.env :: (assignEach es X.env).map (·.2) := by rfl) : DGs X (e :: es) (gsCons t u) := pgs_imp (pgs_cons h1 h2 hs) fun vs σ H Q ⟨ρ, ω, ds, Qd, a, r, q, g⟩ => by
  cases ds with
  | nil => exact q.elim
  | cons d ds =>
    unfold Reps at r
    obtain ⟨v, vr, rfl, p1, p2⟩ := r
    exact ⟨v, vr, rfl, ρ, ω, d, _, a, p1, q, fun ρ' ω' σ' H' kp a' q' => ⟨ρ', ω', ds, Qd, a', p2.keep kp, q', g.on kp⟩⟩
/-- (a, b, ..) = a tuple -/
def gT (n : Nat) (u : DTGs) : DTG := fun d ρ ω Q => match d with
  | .tup ds => ds.length = n ∧ u ds ρ ω Q
  | _ => False
theorem dg_tup {kk : Nat} {u : DTGs} {n : Nat} (g : Good X k W) (h : DGs X es u) (hn : (assignEach es X.env).length = n := by rfl) (hst : (assignEach es X.env).findIdx? (·.1) = none := by rfl) : DG X (.Tuple es kk pos) (gT n u) := pg_imp (pg_tup g.calm h hn hst) fun v σ H Q ⟨ρ, ω, d, Qd, a, r, q, gk⟩ => by
  cases d with
  | tup ds =>
    obtain ⟨p, xs, rfl, h1, h2⟩ := r.tup_seq
    exact ⟨p, xs, rfl, h1, by rw [h2.length]; exact q.1, ρ, ω, ds, Qd, a, h2, q.2, gk⟩
  | _ => exact q.elim
/-- o[i] = v of an open list -/
def sL : D → D → D → Sto → (Sto → Prop) → Prop := fun o i v ω Q => match o, i with
  | .ref p, .int j => (match ω p with
    | some (.lst ds) => (match ixN ds.length j with
      | some n => Q (put ω p (.lst (ds.set n v)))
      | none => False)
    | _ => False)
  | _, _ => False
/-- stores by values -/
structure DSet (X : Cx) (sd : D → D → D → Sto → (Sto → Prop) → Prop) : Prop where
  ok : ∃ t, PSet X t ∧ ∀ o i v H ω od id vd Q Qd, RelH X.K H ω → Rep X.K H (dm ω) od o → Rep X.K H (dm ω) id i → Rep X.K H (dm ω) vd v → sd od id vd ω Qd →
    (∀ ω' H', Kp (dm ω) H (dm ω') H' → RelH X.K H' ω' → Qd ω' → Q H') → t o i v H Q
theorem put_lst {K : PySem.W.Frag} {H : Hp} {ω : Sto} {p : Addr} {w : OO} {ds : List D} {xs : List V} (r : RelH K H ω) (e : ω p = some w) (h : Reps K H (dm ω) ds xs) :
    Kp (dm ω) H (dm (put ω p (.lst ds))) (upd H p (.lst xs)) ∧ RelH K (upd H p (.lst xs)) (put ω p (.lst ds)) := by
  have dp : dm ω p := by show ω p ≠ none; rw [e]; exact fun z => nomatch z
  have k : Kp (dm ω) H (dm ω) (upd H p (.lst xs)) := Kp.wrote dp fun _ z => z
  exact ⟨Kp.wrote dp (dm_put e), r.wrote e ⟨xs, upd_same, h.keep k⟩⟩
theorem put_dic {K : PySem.W.Frag} {H : Hp} {ω : Sto} {p : Addr} {w : OO} {ds : List (Key × D)} {xs : List (Key × V)} (r : RelH K H ω) (e : ω p = some w) (h : RepK K H (dm ω) ds xs) :
    Kp (dm ω) H (dm (put ω p (.dic ds))) (upd H p (.dK xs)) ∧ RelH K (upd H p (.dK xs)) (put ω p (.dic ds)) := by
  have dp : dm ω p := by show ω p ≠ none; rw [e]; exact fun z => nomatch z
  have k : Kp (dm ω) H (dm ω) (upd H p (.dK xs)) := Kp.wrote dp fun _ z => z
  exact ⟨Kp.wrote dp (dm_put e), r.wrote e ⟨xs, upd_same, h.keep k⟩⟩
theorem s_list : DSet X sL := ⟨_, set_list, fun o i v H ω od id vd Q Qd r p1 p2 p3 q hk => by
  unfold sL at q
  split at q
  · rename_i p j
    split at q
    · rename_i ds e
      split at q
      · rename_i n en
        obtain ⟨xs, h1, h2⟩ := r p _ e
        obtain ⟨k2, r2⟩ := put_lst r e (h2.set n p3)
        exact ⟨p, xs, j, n, p1.ref, p2.int, h1, by rw [h2.length]; exact en, hk _ _ k2 r2 q⟩
      · exact q.elim
    · exact q.elim
  · exact q.elim⟩
def gSb (sd : D → D → D → Sto → (Sto → Prop) → Prop) (to ti : DTE) : DTG := fun d ρ ω Q => to ρ ω (fun o ω1 => ti ρ ω1 (fun i ω2 => sd o i d ω2 fun ω3 => Q ρ ω3) (fun _ _ => False)) (fun _ _ => False)
theorem dg_sub {o i : Expr} {to ti : DTE} {sd} (ho : DE X W o to) (hi : DE X W i ti) (hs : DSet X sd)
    (ha : ∀ v, assign (.Subscript o i pos) X.env v = (do
      let ov ← holding [v] (eval o X.env)
      let iv ← holding [v, ov] (eval i X.env)
      standAt pos
      holding [v, ov, iv] (setItem ov iv v)
      release [v, ov, iv] []) := by intro _; rfl) : DG X (.Subscript o i pos) (gSb sd to ti) := by
  obtain ⟨t, h1, h2⟩ := hs.ok
  exact pg_imp (pg_sub ho hi h1 ha) fun v σ H Q ⟨ρ, ω, d, Qd, a, r, q, g⟩ =>
    ⟨ρ, ω, _, _, a, q, fun od ω1 ov H1 k1 r1 p1 q1 => ⟨ρ, ω1, _, _, a.on k1 r1, q1, fun id ω2 iv H2 k2 r2 p2 q2 =>
      h2 ov iv v H2 ω2 od id d _ _ r2 (p1.keep k2) p2 ((r.keep k1).keep k2) q2 fun ω3 H3 k3 r3 q3 => g _ _ _ _ ((k1.trans k2).trans k3) (a.on ((k1.trans k2).trans k3) r3) q3,
      fun _ _ _ _ _ _ _ _ z => z.elim⟩, fun _ _ _ _ _ _ _ _ z => z.elim⟩
/-- target = value -/
def dAsg (te : DTE) (g : DTG) : DTS := fun DD ρ ω => te ρ ω (fun d ω1 => g d ρ ω1 DD.nx) (xk DD ρ)
theorem ds_asg {tg : Expr} {g : DTG} (he : DE X W e te) (hg : DG X tg g) (hs : swapsWithSole [tg] e pos.line X.env = pure false := by rfl) (hw : swappedStores [tg] e X.env = pure none := by rfl)
    (h1 : (assignEach [tg] X.env).map (·.2) = [assign tg X.env] := by rfl) : DS X W (.Assign [tg] e pos) (dAsg te g) := ps_imp (ps_asg he hg hs hw h1) fun T σ H ⟨ρ, ω, DD, a, q, k⟩ =>
  ⟨ρ, ω, _, _, a, q, fun d ω1 v H1 k1 r1 p1 q1 => ⟨ρ, ω1, d, _, a.on k1 r1, p1, q1, fun ρ' ω' σ' H' kp => k.nx ρ' ω' σ' H' (k1.trans kp)⟩, k.xk a⟩
/-- x, y = a, b -/
def dPar (i j : Nat) (t : DTA) : DTS := fun DD ρ ω => t ρ ω (fun ds ω1 => match ds with
  | [d, e] => DD.nx ((ρ.set i (some d)).set j (some e)) ω1
  | _ => False) (xk DD ρ)
end
end DL
end

section
set_option Elab.async false
set_option linter.all false
set_option maxRecDepth 100000
namespace DL
open PySem PySem.Spec L2
open PyProof.Rows hiding St
open RZ
section
variable {X : Cx} {W : WX} {k : Nat} {st : Stmt} {sts b1 b2 body : List Stmt} {t u : DTS} {e a b c iter tg : Expr} {es : List Expr} {te ta tb : DTE} {tt : DTT} {tas : DTA} {pos p : Pos}
/-! ### name = value -/
theorem ds_set {i : Nat} {x : Str} {pos' : Pos} (g : Good X k W) (hi : X.N[i]? = some x) (hx : Loc X.env.scope x) (he : DE X W e te) (hs : swapsWith e (some (.Name x pos')) pos.line X.env = pure false := by rfl)
    (hf : X.fn x = true ∨ X.env.scope.names.lookup x = some .local := by first | exact .inl rfl | exact .inr rfl) : DS X W (.Assign [.Name x pos'] e pos) (dAsg te (gN i)) := ps_imp (ps_set g.nd hi hx he hs hf) fun T σ H ⟨ρ, ω, DD, a, q, k⟩ =>
  ⟨ρ, ω, _, _, a, q, fun d ω1 v H1 k1 r1 p1 q1 => k.nx _ _ _ _ k1 ⟨(a.s.keep k1).set i p1, r1⟩ q1, k.xk a⟩
/-- x, y = a, b, plain names -/
theorem ds_par {i j : Nat} {x y : Str} {px py pt : Pos} {kt k2 pt2} (g : Good X k W) (hi : X.N[i]? = some x) (hj : X.N[j]? = some y) (hij : i ≠ j) (hx : X.env.scope.names.lookup x = some .local) (hy : X.env.scope.names.lookup y = some .local) (ha : DA X W [a, b] tas)
    (hw : swappedStores [.Tuple [.Name x px, .Name y py] kt pt] (.Tuple [a, b] k2 pt2) X.env = pure (some [x, y]))
    (hs : swapsWithSole [.Tuple [.Name x px, .Name y py] kt pt] (.Tuple [a, b] k2 pt2) pos.line X.env = pure false := by rfl) : DS X W (.Assign [.Tuple [.Name x px, .Name y py] kt pt] (.Tuple [a, b] k2 pt2) pos) (dPar i j tas) :=
  ps_imp (ps_par g.calm g.nd hi hj hij hx hy ha hw hs) fun T σ H ⟨ρ, ω, DD, a, q, k⟩ =>
  ⟨ρ, ω, _, _, a, q, fun ds ω1 vs H1 k1 r1 p1 q1 => by
    cases ds with
    | nil => exact q1.elim
    | cons d ds => cases ds with
      | nil => exact q1.elim
      | cons e ds => cases ds with
        | cons _ _ => exact q1.elim
        | nil =>
          obtain ⟨v, u, rfl, h1, h2⟩ := reps2 p1
          exact ⟨v, u, rfl, k.nx _ _ _ _ k1 ⟨((a.s.keep k1).set i h1).set j h2, r1⟩ q1⟩, k.xk a⟩
def dPar3 (i j l : Nat) (t : DTA) : DTS := fun DD ρ ω => t ρ ω (fun ds ω1 => match ds with
  | [d, e, f] => DD.nx (((ρ.set i (some d)).set j (some e)).set l (some f)) ω1
  | _ => False) (xk DD ρ)
theorem ds_par3 {i j l : Nat} {x y z : Str} {px py pz pt : Pos} {kt k2 pt2} (g : Good X k W) (hi : X.N[i]? = some x) (hj : X.N[j]? = some y) (hl : X.N[l]? = some z) (hij : i ≠ j) (hil : i ≠ l) (hjl : j ≠ l) (hx : X.env.scope.names.lookup x = some .local)
    (hy : X.env.scope.names.lookup y = some .local) (hz : X.env.scope.names.lookup z = some .local) (ha : DA X W [a, b, c] tas)
    (hw : swappedStores [.Tuple [.Name x px, .Name y py, .Name z pz] kt pt] (.Tuple [a, b, c] k2 pt2) X.env = pure (some [x, y, z]))
    (hs : swapsWithSole [.Tuple [.Name x px, .Name y py, .Name z pz] kt pt] (.Tuple [a, b, c] k2 pt2) pos.line X.env = pure false := by rfl) : DS X W (.Assign [.Tuple [.Name x px, .Name y py, .Name z pz] kt pt] (.Tuple [a, b, c] k2 pt2) pos) (dPar3 i j l tas) :=
  ps_imp (ps_par3 g.calm g.nd hi hj hl hij hil hjl hx hy hz ha hw hs) fun T σ H ⟨ρ, ω, DD, a, q, k⟩ =>
  ⟨ρ, ω, _, _, a, q, fun ds ω1 vs H1 k1 r1 p1 q1 => by
    cases ds with
    | nil => exact q1.elim
    | cons d ds => cases ds with
      | nil => exact q1.elim
      | cons e ds => cases ds with
        | nil => exact q1.elim
        | cons f ds => cases ds with
          | cons _ _ => exact q1.elim
          | nil =>
            unfold Reps at p1
            obtain ⟨w, r, rfl, h0, h'⟩ := p1
            obtain ⟨v, u, rfl, h1, h2⟩ := reps2 h'
            exact ⟨w, v, u, rfl, k.nx _ _ _ _ k1 ⟨(((a.s.keep k1).set i h0).set j h1).set l h2, r1⟩ q1⟩, k.xk a⟩
/-! ### while -/
def whl (tt : DTT) (tb : DTS) : Nat → DTS
  | 0 => fun _ _ _ => False
  | n + 1 => fun DD ρ ω => tt ρ ω (fun b ω1 => if b = true then tb { DD with nx := fun ρ' ω' => whl tt tb n DD ρ' ω', ct := fun ρ' ω' => whl tt tb n DD ρ' ω', bk := DD.nx } ρ ω1 else DD.nx ρ ω1) (xk DD ρ)
def dWhl (tt : DTT) (tb : DTS) : DTS := fun DD ρ ω => ∃ n, whl tt tb n DD ρ ω
theorem ds_while (g : Good X k W) (hc : DT X W c tt) (hb : DSs X W body t) : DS X W (.While c body [] pos) (dWhl tt t) := ps_imp (ps_while g.po hc hb) fun T σ H ⟨ρ, ω, DD, a, ⟨n, q⟩, k⟩ => by
  refine ⟨fun m σ' H' => ∃ ρ' ω', At X.K σ' H' ρ' ω' ∧ Kp (dm ω) H (dm ω') H' ∧ whl tt t m DD ρ' ω', ⟨n, ρ, ω, a, Kp.refl, q⟩, ?_⟩
  rintro m σ1 H1 ⟨ρ1, ω1, a1, k1, q1⟩
  cases m with
  | zero => exact q1.elim
  | succ m =>
    refine ⟨ρ1, ω1, _, _, a1, q1, fun b ω2 H2 k2 r2 q2 => ?_, (k.on k1).xk a1⟩
    cases b with
    | true =>
      refine ⟨fun σ' H' => ∃ ρ' ω', At X.K σ' H' ρ' ω' ∧ Kp (dm ω) H (dm ω') H' ∧ whl tt t m DD ρ' ω', fun σ' H' ⟨ρ', ω', z⟩ => ⟨m, Nat.lt_succ_self m, ρ', ω', z⟩, ρ1, ω2, _, a1.on k2 r2, q2, ?_⟩
      have kk := k1.trans k2
      exact ⟨fun ρ' ω' σ' H' p a' z => ⟨ρ', ω', a', kk.trans p, z⟩, (k.on kk).rt, fun ρ' ω' σ' H' p a' z => k.nx ρ' ω' σ' H' (kk.trans p) a' z, fun ρ' ω' σ' H' p a' z => ⟨ρ', ω', a', kk.trans p, z⟩, (k.on kk).ex⟩
    | false => exact k.nx _ _ _ _ (k1.trans k2) (a1.on k2 r2) q2
/-! ### what is walked -/
/-- the iterator J hands out ds, as long as gd -/
def Walks (K : PySem.W.Frag) (J : It) (H : Hp) (ω : Sto) (gd : Sto → Prop) (ds : List D) : Prop :=
  ∀ i H' ω', Kp (dm ω) H (dm ω') H' → RelH K H' ω' → gd ω' →
    (∀ d, ds[i]? = some d → J.go i H' ∧ ∀ x H'', J.yld i H' x H'' → Kp (dm ω') H' (dm ω') H'' ∧ RelH K H'' ω' ∧ Rep K H'' (dm ω') d x) ∧ (ds[i]? = none → i ≤ ds.length → J.stop i H')
abbrev DTI := Rho → Sto → (List D → (Sto → Prop) → Sto → Prop) → DX → Prop
def cI (K : PySem.W.Frag) (W : WX) (t : DTI) : TI := fun σ H R => ∃ ρ ω Rd Ed, At K σ H ρ ω ∧ t ρ ω Rd Ed ∧
  (∀ ds gd ω1 J H1, Kp (dm ω) H (dm ω1) H1 → RelH K H1 ω1 → Walks K J H1 ω1 gd ds → Rd ds gd ω1 → R J H1) ∧ Ek K W σ ω H Ed
abbrev DI (X : Cx) (W : WX) (tg iter : Expr) (t : DTI) : Prop := PI X tg iter (cI X.K W t)
theorem pi_imp {X : Cx} {tg iter : Expr} {t t' : TI} (h : PI X tg iter t) (i : ∀ σ H R, t' σ H R → t σ H R) : PI X tg iter t' := ⟨fun pins s σ H R I q => h.run pins s σ H R I (i _ _ _ q)⟩
/-- nothing is asked of the store while it goes on, but that an open thing stands as it was -/
def gdD (ω : Sto) : D → Sto → Prop
  | .ref p => fun ω' => ω' p = ω p
  | _ => fun _ => True
theorem it_list {pins : List (Addr × Obj)} {σ : St} {H : Hp} {s : Shared} {a : Addr} {xs : List V} {R : It → Hp → Prop} {E : Value → Shared → Prop} (I : Inv X pins σ H s) (h : SqL X.K H a xs) (q : R (Itl X.K a) H) :
    wpAny (model X.prog X.w) X.A (pyIter (.ref a)) (PIE X pins σ tg R) E s := by
  obtain ⟨its, r, pl, z⟩ := I.list h
  have up : ∀ b o, s.heap.get? b = some o → (s.heap.push { cls := .type "list_iterator", data := .fields #[.ref a, .int 0 0] }).get? b = some o := fun b o w => Heap.get?_push_of_some _ w
  refine wpAny_pyIter_list pl.isList ⟨s.heap.objs.size, [s.heap.objs.size], _, Itl X.K a, H, rfl, I.kept (t' := s.toks) up, turn_list a _, ⟨_, Heap.get?_push_size _ rfl, rfl, rfl⟩, ?_, q⟩
  intro b hb
  rw [List.mem_singleton] at hb
  rw [hb]
  exact I.fpOk (Nat.le_refl _) (I.hok.fresh (Nat.le_refl _))
theorem it_tup {pins : List (Addr × Obj)} {σ : St} {H : Hp} {s : Shared} {a : Addr} {xs : List V} {R : It → Hp → Prop} {E : Value → Shared → Prop} (I : Inv X pins σ H s) (h : SqT X.K H a xs) (q : R (Itt X.K a) H) :
    wpAny (model X.prog X.w) X.A (pyIter (.ref a)) (PIE X pins σ tg R) E s := by
  obtain ⟨its, r, pl, z⟩ := I.tuple h
  have up : ∀ b o, s.heap.get? b = some o → (s.heap.push { cls := .type "tuple_iterator", data := .fields #[.ref a, .int 0 0] }).get? b = some o := fun b o w => Heap.get?_push_of_some _ w
  refine wpAny_pyIter_tuple (show s.heap.IsTuple a its.toArray from pl) ⟨s.heap.objs.size, [s.heap.objs.size], _, Itt X.K a, H, rfl, I.kept (t' := s.toks) up, turn_tuple a _, ⟨_, Heap.get?_push_size _ rfl, rfl, rfl⟩, ?_, q⟩
  intro b hb
  rw [List.mem_singleton] at hb
  rw [hb]
  exact I.fpOk (Nat.le_refl _) (I.hok.fresh (Nat.le_refl _))
theorem it_str {pins : List (Addr × Obj)} {σ : St} {H : Hp} {s : Shared} {x : Str} {t : Tok} {R : It → Hp → Prop} {E : Value → Shared → Prop} (I : Inv X pins σ H s) (q : R (Its x) H) :
    wpAny (model X.prog X.w) X.A (pyIter (.str x t)) (PIE X pins σ tg R) E s := by
  cases z : x.cps.all (· < 128) with
  | false => exact wpAny_pyIter_wide z (pi_one (tk := s.toks) I _ (turn_str _ x t "str_iterator" (.inr rfl)) ⟨_, Heap.get?_push_size _ rfl, rfl, rfl⟩ q)
  | true => exact wpAny_pyIter_ascii z (pi_one (tk := s.toks) I _ (turn_str _ x t "str_ascii_iterator" (.inl rfl)) ⟨_, Heap.get?_push_size _ rfl, rfl, rfl⟩ q)
/-- a list, a tuple, a text, by its value -/
def iAny (K : PySem.W.Frag) (te : TE) : TI := fun σ H R => te σ H fun x H1 => (∃ a xs, x = .ref a ∧ SqL K H1 a xs ∧ R (Itl K a) H1) ∨ (∃ a xs, x = .ref a ∧ SqT K H1 a xs ∧ R (Itt K a) H1) ∨ ∃ z, x = .str z ∧ R (Its z) H1
theorem pi_any {te : TE} (h : PE X e te) : PI X tg e (iAny X.K te) := ⟨fun pins s σ H R I q => thn (h.run pins s σ H _ I q) fun v s1 ⟨x, H1, I1, r1, q1⟩ => by
  rcases q1 with ⟨a, xs, rfl, hs, q1⟩ | ⟨a, xs, rfl, hs, q1⟩ | ⟨z, rfl, q1⟩
  · cases r1; exact it_list I1 hs q1
  · cases r1; exact it_tup I1 hs q1
  · obtain ⟨t, rfl⟩ := r1; exact it_str I1 q1⟩
def signs (z : Str) : List D := z.cps.toList.map fun c => .str ⟨#[c]⟩
/-- the items of a thing -/
def itsD : D → Option (List D)
  | .lst ds => some ds
  | .tup ds => some ds
  | .scr ds => some ds
  | .str z => some (signs z)
  | _ => none
theorem walks_list {K : PySem.W.Frag} {H : Hp} {ω : Sto} {a : Addr} {ds : List D} {gd : Sto → Prop} (h : ∀ H' ω', Kp (dm ω) H (dm ω') H' → RelH K H' ω' → gd ω' → ∃ xs, SqL K H' a xs ∧ Reps K H' (dm ω') ds xs) : Walks K (Itl K a) H ω gd ds := fun i H' ω' kp r g => by
  obtain ⟨xs, h1, h2⟩ := h H' ω' kp r g
  refine ⟨fun d e => ?_, fun e l => ⟨xs, h1, by rw [h2.length]; exact List.getElem?_eq_none_iff.mp e⟩⟩
  obtain ⟨v, e1, e2⟩ := h2.get e
  refine ⟨⟨xs, v, h1, e1⟩, fun x H'' ⟨z, y⟩ => ?_⟩
  subst z
  have := y xs h1
  rw [e1] at this
  cases this
  exact ⟨Kp.refl, r, e2⟩
theorem walks_tup {K : PySem.W.Frag} {H : Hp} {ω : Sto} {a : Addr} {ds : List D} {gd : Sto → Prop} (h : ∀ H' ω', Kp (dm ω) H (dm ω') H' → RelH K H' ω' → gd ω' → ∃ xs, SqT K H' a xs ∧ Reps K H' (dm ω') ds xs) : Walks K (Itt K a) H ω gd ds := fun i H' ω' kp r g => by
  obtain ⟨xs, h1, h2⟩ := h H' ω' kp r g
  refine ⟨fun d e => ?_, fun e l => ⟨xs, h1, by rw [h2.length]; exact List.getElem?_eq_none_iff.mp e⟩⟩
  obtain ⟨v, e1, e2⟩ := h2.get e
  refine ⟨⟨xs, v, h1, e1⟩, fun x H'' ⟨z, y⟩ => ?_⟩
  subst z
  have := y xs h1
  rw [e1] at this
  cases this
  exact ⟨Kp.refl, r, e2⟩
theorem walks_str {K : PySem.W.Frag} {H : Hp} {ω : Sto} {z : Str} {gd : Sto → Prop} : Walks K (Its z) H ω gd (signs z) := fun i H' ω' kp r g => by
  have hl : (signs z).length = z.cps.size := by unfold signs; simp
  refine ⟨fun d e => ?_, fun e l => ?_⟩
  · have hi : i < z.cps.size := by rw [← hl]; exact (List.getElem?_eq_some_iff.mp e).1
    refine ⟨hi, fun x H'' ⟨w, c, e1, e2⟩ => ?_⟩
    subst w e2
    unfold signs at e
    rw [List.getElem?_map, Array.getElem?_toList, e1] at e
    cases e
    exact ⟨Kp.refl, r, rS⟩
  · show z.cps.size ≤ i
    rw [← hl]
    exact List.getElem?_eq_none_iff.mp e
def dIt (te : DTE) : DTI := fun ρ ω R E => te ρ ω (fun d ω1 => match itsD (der ω1 d) with
  | some ds => R ds (gdD ω1 d) ω1
  | none => False) E
theorem di_any (h : DE X W e te) : DI X W tg e (dIt te) := pi_imp (pi_any h) fun σ H R ⟨ρ, ω, Rd, Ed, a, q, hr, he⟩ =>
  ⟨ρ, ω, _, Ed, a, q, fun d ω1 v H1 k1 r1 p1 q1 => by
    have q1 : match itsD (der ω1 d) with
      | some ds => Rd ds (gdD ω1 d) ω1
      | none => False := q1
    cases z : der ω1 d with
    | lst ds =>
      rw [z] at q1
      obtain ⟨b, xs, rfl, h1, h2⟩ := lst_of r1 p1 z
      refine .inl ⟨b, xs, rfl, .inl (.inl h1), hr ds _ ω1 _ H1 k1 r1 (walks_list fun H' ω' kp r g => ?_) q1⟩
      cases d with
      | lst es =>
        cases z
        obtain ⟨b', ys, e1, e2, e3⟩ := (p1.keep kp).lst_seq
        cases e1
        exact ⟨ys, .inl (.inl e2), e3⟩
      | ref p =>
        have g' : ω' p = ω1 p := g
        have e0 := p1.ref
        cases e0
        have e4 : ω1 b = some (.lst ds) := by
          replace z : derR ω1 b = _ := z
          unfold derR at z
          split at z
          · rename_i es he; cases z; exact he
          · cases z
          · cases z
        obtain ⟨ys, e2, e3⟩ := r b _ (g'.trans e4)
        exact ⟨ys, .inl (.inl e2), e3⟩
      | _ => cases z
    | tup ds =>
      rw [z] at q1
      have z' := der_tup z
      subst z'
      obtain ⟨b, xs, rfl, h1, h2⟩ := p1.tup_seq
      refine .inr (.inl ⟨b, xs, rfl, h1, hr ds _ ω1 _ H1 k1 r1 (walks_tup fun H' ω' kp r g => ?_) q1⟩)
      obtain ⟨b', ys, e1, e2, e3⟩ := (p1.keep kp).tup_seq
      cases e1
      exact ⟨ys, e2, e3⟩
    | scr ds =>
      rw [z] at q1
      have z' := der_scr z
      subst z'
      obtain ⟨b, xs, rfl, h1, h2⟩ := p1.scr_seq
      refine .inl ⟨b, xs, rfl, h1, hr ds _ ω1 _ H1 k1 r1 (walks_list fun H' ω' kp r g => ?_) q1⟩
      obtain ⟨b', ys, e1, e2, e3⟩ := (p1.keep kp).scr_seq
      cases e1
      exact ⟨ys, e2, e3⟩
    | str x =>
      rw [z] at q1
      have z' := der_str z
      subst z'
      exact .inr (.inr ⟨x, p1.str, hr _ _ ω1 _ H1 k1 r1 walks_str q1⟩)
    | _ => rw [z] at q1; exact q1.elim, he⟩
/-! ### range -/
def rng (lo : Int) (n : Nat) : List D := (List.range n).map fun i => .int (lo + (i : Nat))
theorem walks_rng {K : PySem.W.Frag} {H : Hp} {ω : Sto} {lo : Int} {n : Nat} {gd : Sto → Prop} : Walks K (Itr lo n) H ω gd (rng lo n) := fun i H' ω' kp r g => by
  have hl : (rng lo n).length = n := by unfold rng; simp
  refine ⟨fun d e => ?_, fun e l => ?_⟩
  · have hi : i < n := by rw [← hl]; exact (List.getElem?_eq_some_iff.mp e).1
    refine ⟨hi, fun x H'' ⟨w, e2⟩ => ?_⟩
    subst w e2
    unfold rng at e
    rw [List.getElem?_map, List.getElem?_range hi] at e
    cases e
    exact ⟨Kp.refl, r, rI⟩
  · show n ≤ i
    rw [← hl]
    exact List.getElem?_eq_none_iff.mp e
def dRng1 (t : DTA) : DTI := fun ρ ω R E => t ρ ω (fun ds ω1 => match ds with
  | [.int j] => (-(2 ^ 62) ≤ j ∧ j < 2 ^ 62) ∧ R (rng 0 j.toNat) (fun _ => True) ω1
  | _ => False) E
def dRng2 (t : DTA) : DTI := fun ρ ω R E => t ρ ω (fun ds ω1 => match ds with
  | [.int i, .int j] => (-(2 ^ 62) ≤ i ∧ i < 2 ^ 62 ∧ -(2 ^ 62) ≤ j ∧ j < 2 ^ 62) ∧ R (rng i (j - i).toNat) (fun _ => True) ω1
  | _ => False) E
theorem di_rng1 (hm : X.mg "range" = none) (ha : DA X W [a] tas) (hg : Gl X "range" := by rfl) (hs : starEach [a] X.env = [(false, eval a X.env)] := by rfl) : DI X W tg (.Call (.Name "range" p) [a] [] pos) (dRng1 tas) := pi_imp (pi_range1 hg hm ha hs) fun σ H R ⟨ρ, ω, Rd, Ed, at_, q, hr, he⟩ =>
  ⟨ρ, ω, _, Ed, at_, q, fun ds ω1 vs H1 k1 r1 p1 q1 => by
    split at q1
    · rename_i j
      obtain ⟨v, rfl, p2⟩ := reps1 p1
      exact ⟨j, by rw [p2.int], q1.1.1, q1.1.2, hr _ _ ω1 _ H1 k1 r1 walks_rng q1.2⟩
    · exact q1.elim, he⟩
theorem di_rng2 (hm : X.mg "range" = none) (ha : DA X W [a, b] tas) (hg : Gl X "range" := by rfl) (hs : starEach [a, b] X.env = [(false, eval a X.env), (false, eval b X.env)] := by rfl) (hs2 : starEach [b] X.env = [(false, eval b X.env)] := by rfl) :
    DI X W tg (.Call (.Name "range" p) [a, b] [] pos) (dRng2 tas) := pi_imp (pi_range2 hg hm ha hs hs2) fun σ H R ⟨ρ, ω, Rd, Ed, at_, q, hr, he⟩ =>
  ⟨ρ, ω, _, Ed, at_, q, fun ds ω1 vs H1 k1 r1 p1 q1 => by
    split at q1
    · rename_i i j
      obtain ⟨v, u, rfl, p2, p3⟩ := reps2 p1
      exact ⟨i, j, by rw [p2.int, p3.int], q1.1, hr _ _ ω1 _ H1 k1 r1 walks_rng q1.2⟩
    · exact q1.elim, he⟩
/-! ### zip, enumerate -/
def pairs : List D → List D → List D
  | d :: ds, e :: es => .tup [d, e] :: pairs ds es
  | _, _ => []
theorem pairs_get : ∀ {ds es : List D} {i : Nat}, (∀ z, (pairs ds es)[i]? = some z → ∃ d e, ds[i]? = some d ∧ es[i]? = some e ∧ z = .tup [d, e]) ∧ ((pairs ds es)[i]? = none → ds.length ≤ i ∨ es.length ≤ i)
  | [], _, i => ⟨fun z h => (by simp [pairs] at h), fun _ => .inl (Nat.zero_le _)⟩
  | _ :: _, [], i => ⟨fun z h => (by simp [pairs] at h), fun _ => .inr (Nat.zero_le _)⟩
  | d :: ds, e :: es, 0 => ⟨fun z h => (by simp [pairs] at h; exact ⟨d, e, rfl, rfl, h.symm⟩), fun h => (by simp [pairs] at h)⟩
  | d :: ds, e :: es, i + 1 => by
    obtain ⟨h1, h2⟩ := pairs_get (ds := ds) (es := es) (i := i)
    refine ⟨fun z h => ?_, fun h => ?_⟩
    · obtain ⟨a, b, x, y, w⟩ := h1 z (by simpa [pairs] using h)
      exact ⟨a, b, by simpa using x, by simpa using y, w⟩
    · have := h2 (by simpa [pairs] using h)
      simp only [List.length_cons]
      omega
/-- a new pair -/
theorem new_pair {K : PySem.W.Frag} {H : Hp} {ω : Sto} {T : Addr} {x y : V} {d e : D} (n : H T = none) (r : RelH K H ω) (p : Rep K H (dm ω) d x) (q : Rep K H (dm ω) e y) :
    Kp (dm ω) H (dm ω) (upd H T (.tup [x, y])) ∧ RelH K (upd H T (.tup [x, y])) ω ∧ Rep K (upd H T (.tup [x, y])) (dm ω) (.tup [d, e]) (.ref T) :=
  ⟨Kp.laid n, r.laid n, rep_tup_new n (r.not n) (Reps.cons p (Reps.cons q Reps.nil))⟩
/-- the list that d is now, later on -/
theorem later_lst {K : PySem.W.Frag} {H H' : Hp} {ω ω' : Sto} {d : D} {a : Addr} {ds : List D} (p : Rep K H (dm ω) d (.ref a)) (e : der ω d = .lst ds ∨ der ω d = .scr ds) (kp : Kp (dm ω) H (dm ω') H') (r : RelH K H' ω') (g : gdD ω d ω') : ∃ xs, SqL K H' a xs ∧ Reps K H' (dm ω') ds xs := by
  cases d with
  | lst es =>
    rcases e with e | e
    · cases e
      obtain ⟨b', ys, e1, e2, e3⟩ := (p.keep kp).lst_seq
      cases e1
      exact ⟨ys, .inl (.inl e2), e3⟩
    · cases e
  | scr es =>
    rcases e with e | e
    · cases e
    · cases e
      obtain ⟨b', ys, e1, e2, e3⟩ := (p.keep kp).scr_seq
      cases e1
      exact ⟨ys, e2, e3⟩
  | ref b =>
    have g' : ω' b = ω b := g
    have e0 := p.ref
    cases e0
    have e4 : ω a = some (.lst ds) := by
      rcases e with z | z
      · replace z : derR ω a = _ := z
        unfold derR at z
        split at z
        · rename_i es he; cases z; exact he
        · cases z
        · cases z
      · replace z : derR ω a = _ := z
        unfold derR at z
        split at z <;> cases z
    obtain ⟨ys, e2, e3⟩ := r a _ (g'.trans e4)
    exact ⟨ys, .inl (.inl e2), e3⟩
  | _ => rcases e with e | e <;> cases e
def lstD : D → Option (List D)
  | .lst ds => some ds
  | .scr ds => some ds
  | _ => none
theorem lstD_of {K : PySem.W.Frag} {H : Hp} {ω : Sto} {d : D} {v : V} {ds : List D} (r : RelH K H ω) (p : Rep K H (dm ω) d v) (e : lstD (der ω d) = some ds) : ∃ a, v = .ref a ∧ (der ω d = .lst ds ∨ der ω d = .scr ds) ∧ ∃ xs, SqL K H a xs := by
  cases z : der ω d with
  | lst es => rw [z] at e; cases e; obtain ⟨a, xs, h1, h2, h3⟩ := lst_of r p z; exact ⟨a, h1, .inl rfl, xs, .inl (.inl h2)⟩
  | scr es =>
    rw [z] at e; cases e
    have z' := der_scr z
    subst z'
    obtain ⟨a, xs, h1, h2, h3⟩ := p.scr_seq
    exact ⟨a, h1, .inr rfl, xs, h2⟩
  | _ => rw [z] at e; cases e
theorem walks_zip {K : PySem.W.Frag} {H : Hp} {ω : Sto} {a b : Addr} {ds es : List D} {gd : Sto → Prop} (h : ∀ H' ω', Kp (dm ω) H (dm ω') H' → RelH K H' ω' → gd ω' → ∃ xs ys, SqL K H' a xs ∧ SqL K H' b ys ∧ Reps K H' (dm ω') ds xs ∧ Reps K H' (dm ω') es ys) : Walks K (Itz K a b) H ω gd (pairs ds es) := fun i H' ω' kp r g => by
  obtain ⟨xs, ys, h1, h2, h3, h4⟩ := h H' ω' kp r g
  obtain ⟨g1, g2⟩ := pairs_get (ds := ds) (es := es) (i := i)
  refine ⟨fun z ez => ?_, fun ez l => ?_⟩
  · obtain ⟨d, e, x1, x2, rfl⟩ := g1 z ez
    obtain ⟨v, e1, e2⟩ := h3.get x1
    obtain ⟨u, f1, f2⟩ := h4.get x2
    refine ⟨⟨xs, ys, v, u, h1, h2, e1, f1⟩, fun x H'' ⟨T, x', y', ex, n, eH, q1, q2⟩ => ?_⟩
    have a1 := q1 xs h1
    have a2 := q2 ys h2
    rw [e1] at a1; cases a1
    rw [f1] at a2; cases a2
    subst ex eH
    exact new_pair n r e2 f2
  · refine ⟨xs, ys, h1, h2, ?_⟩
    rw [h3.length, h4.length]
    exact g2 ez
theorem walks_zipT {K : PySem.W.Frag} {H : Hp} {ω : Sto} {a b : Addr} {ds es : List D} {gd : Sto → Prop} (h : ∀ H' ω', Kp (dm ω) H (dm ω') H' → RelH K H' ω' → gd ω' → ∃ xs ys, SqT K H' a xs ∧ SqT K H' b ys ∧ Reps K H' (dm ω') ds xs ∧ Reps K H' (dm ω') es ys) : Walks K (ItzT K a b) H ω gd (pairs ds es) := fun i H' ω' kp r g => by
  obtain ⟨xs, ys, h1, h2, h3, h4⟩ := h H' ω' kp r g
  obtain ⟨g1, g2⟩ := pairs_get (ds := ds) (es := es) (i := i)
  refine ⟨fun z ez => ?_, fun ez l => ?_⟩
  · obtain ⟨d, e, x1, x2, rfl⟩ := g1 z ez
    obtain ⟨v, e1, e2⟩ := h3.get x1
    obtain ⟨u, f1, f2⟩ := h4.get x2
    refine ⟨⟨xs, ys, v, u, h1, h2, e1, f1⟩, fun x H'' ⟨T, x', y', ex, n, eH, q1, q2⟩ => ?_⟩
    have a1 := q1 xs h1
    have a2 := q2 ys h2
    rw [e1] at a1; cases a1
    rw [f1] at a2; cases a2
    subst ex eH
    exact new_pair n r e2 f2
  · refine ⟨xs, ys, h1, h2, ?_⟩
    rw [h3.length, h4.length]
    exact g2 ez
def dZip (t : DTA) : DTI := fun ρ ω R E => t ρ ω (fun ds ω1 => match ds with
  | [d, e] => (match lstD (der ω1 d), lstD (der ω1 e) with
    | some xs, some ys => R (pairs xs ys) (fun ω' => gdD ω1 d ω' ∧ gdD ω1 e ω') ω1
    | none, none => (match der ω1 d, der ω1 e with
      | .tup xs, .tup ys => R (pairs xs ys) (fun _ => True) ω1
      | _, _ => False)
    | _, _ => False)
  | _ => False) E
theorem di_zip {elts : List Expr} {kk : Nat} {tpos : Pos} (hm : X.mg "zip" = none) (ha : DA X W [a, b] tas) (hg : Gl X "zip" := by rfl) (hs : starEach [a, b] X.env = (false, eval a X.env) :: starEach [b] X.env := by rfl) (hpl : (backTo pos (starEach [b] X.env)).any (·.1) = false := by rfl) :
    DI X W (.Tuple elts kk tpos) (.Call (.Name "zip" p) [a, b] [] pos) (dZip tas) := pi_imp (pi_zipA hg hm ha hs hpl) fun σ H R ⟨ρ, ω, Rd, Ed, at_, q, hr, he⟩ =>
  ⟨ρ, ω, _, Ed, at_, q, fun ds ω1 vs H1 k1 r1 p1 q1 => by
    split at q1
    · rename_i d e
      obtain ⟨v, u, rfl, p2, p3⟩ := reps2 p1
      split at q1
      · rename_i xs ys e1 e2
        obtain ⟨l1, rfl, c1, zs, s1⟩ := lstD_of r1 p2 e1
        obtain ⟨l2, rfl, c2, ws, s2⟩ := lstD_of r1 p3 e2
        refine ⟨l1, l2, zs, ws, rfl, .inl ⟨s1, s2, hr _ _ ω1 _ H1 k1 r1 (walks_zip fun H' ω' kp r g => ?_) q1⟩⟩
        obtain ⟨xs', a1, a2⟩ := later_lst p2 c1 kp r g.1
        obtain ⟨ys', b1, b2⟩ := later_lst p3 c2 kp r g.2
        exact ⟨xs', ys', a1, b1, a2, b2⟩
      · split at q1
        · rename_i xs ys e1 e2
          have z1 := der_tup e1
          have z2 := der_tup e2
          subst z1 z2
          obtain ⟨l1, zs, rfl, s1, t1⟩ := p2.tup_seq
          obtain ⟨l2, ws, rfl, s2, t2⟩ := p3.tup_seq
          refine ⟨l1, l2, zs, ws, rfl, .inr ⟨s1, s2, hr _ _ ω1 _ H1 k1 r1 (walks_zipT fun H' ω' kp r g => ?_) q1⟩⟩
          obtain ⟨_, xs', z, a1, a2⟩ := (p2.keep kp).tup_seq
          cases z
          obtain ⟨_, ys', z, b1, b2⟩ := (p3.keep kp).tup_seq
          cases z
          exact ⟨xs', ys', a1, b1, a2, b2⟩
        · exact q1.elim
      · exact q1.elim
    · exact q1.elim, he⟩
def numd (i : Nat) : List D → List D
  | [] => []
  | d :: ds => .tup [.int (i : Nat), d] :: numd (i + 1) ds
theorem numd_get : ∀ {ds : List D} {j i : Nat}, (∀ z, (numd j ds)[i]? = some z → ∃ d, ds[i]? = some d ∧ z = .tup [.int ((j + i : Nat) : Int), d]) ∧ ((numd j ds)[i]? = none → ds.length ≤ i)
  | [], j, i => ⟨fun z h => (by simp [numd] at h), fun _ => Nat.zero_le _⟩
  | d :: ds, j, 0 => ⟨fun z h => (by simp [numd] at h; exact ⟨d, rfl, h.symm⟩), fun h => (by simp [numd] at h)⟩
  | d :: ds, j, i + 1 => by
    obtain ⟨h1, h2⟩ := numd_get (ds := ds) (j := j + 1) (i := i)
    refine ⟨fun z h => ?_, fun h => ?_⟩
    · obtain ⟨a, x, w⟩ := h1 z (by simpa [numd] using h)
      exact ⟨a, by simpa using x, by rw [w, show j + 1 + i = j + (i + 1) by omega]⟩
    · have := h2 (by simpa [numd] using h)
      simp only [List.length_cons]
      omega
theorem walks_enum {K : PySem.W.Frag} {H : Hp} {ω : Sto} {a : Addr} {ds : List D} {gd : Sto → Prop} (h : ∀ H' ω', Kp (dm ω) H (dm ω') H' → RelH K H' ω' → gd ω' → ∃ xs, SqL K H' a xs ∧ Reps K H' (dm ω') ds xs) : Walks K (Ite K a) H ω gd (numd 0 ds) := fun i H' ω' kp r g => by
  obtain ⟨xs, h1, h3⟩ := h H' ω' kp r g
  obtain ⟨g1, g2⟩ := numd_get (ds := ds) (j := 0) (i := i)
  refine ⟨fun z ez => ?_, fun ez l => ?_⟩
  · obtain ⟨d, x1, rfl⟩ := g1 z ez
    obtain ⟨v, e1, e2⟩ := h3.get x1
    refine ⟨⟨xs, v, h1, e1⟩, fun x H'' ⟨T, x', ex, n, eH, q1⟩ => ?_⟩
    have a1 := q1 xs h1
    rw [e1] at a1; cases a1
    subst ex eH
    rw [Nat.zero_add]
    exact new_pair n r rI e2
  · exact ⟨xs, h1, by rw [h3.length]; exact g2 ez⟩
def dEnum (t : DTA) : DTI := fun ρ ω R E => t ρ ω (fun ds ω1 => match ds with
  | [d] => (match lstD (der ω1 d) with
    | some xs => R (numd 0 xs) (gdD ω1 d) ω1
    | none => False)
  | _ => False) E
theorem di_enum {elts : List Expr} {kk : Nat} {tpos : Pos} (hm : X.mg "enumerate" = none) (ha : DA X W [a] tas) (hg : Gl X "enumerate" := by rfl) (hs : starEach [a] X.env = [(false, eval a X.env)] := by rfl) :
    DI X W (.Tuple elts kk tpos) (.Call (.Name "enumerate" p) [a] [] pos) (dEnum tas) := pi_imp (pi_enum hg hm ha hs) fun σ H R ⟨ρ, ω, Rd, Ed, at_, q, hr, he⟩ =>
  ⟨ρ, ω, _, Ed, at_, q, fun ds ω1 vs H1 k1 r1 p1 q1 => by
    split at q1
    · rename_i d
      obtain ⟨v, rfl, p2⟩ := reps1 p1
      split at q1
      · rename_i xs e1
        obtain ⟨l1, rfl, c1, zs, s1⟩ := lstD_of r1 p2 e1
        exact ⟨l1, zs, rfl, s1, hr _ _ ω1 _ H1 k1 r1 (walks_enum fun H' ω' kp r g => later_lst p2 c1 kp r g) q1⟩
      · exact q1.elim
    · exact q1.elim, he⟩
/-! ### for -/
def forL (g : DTG) (tb : DTS) (gd : Sto → Prop) : List D → DTS
  | [] => fun DD ρ ω => gd ω ∧ DD.nx ρ ω
  | d :: ds => fun DD ρ ω => gd ω ∧ g d ρ ω fun ρ1 ω1 => tb { DD with nx := fun ρ' ω' => forL g tb gd ds DD ρ' ω', ct := fun ρ' ω' => forL g tb gd ds DD ρ' ω', bk := DD.nx } ρ1 ω1
def dFor (ti : DTI) (g : DTG) (tb : DTS) : DTS := fun DD ρ ω => ti ρ ω (fun ds gd ω1 => forL g tb gd ds DD ρ ω1) (xk DD ρ)
theorem forL_gd {g : DTG} {tb : DTS} {gd : Sto → Prop} {ds : List D} {DD : DEn} {ρ : Rho} {ω : Sto} (h : forL g tb gd ds DD ρ ω) : gd ω := by
  cases ds with
  | nil => exact h.1
  | cons d ds => exact h.1
theorem ds_for {ti : DTI} {g : DTG} (G : Good X k W) (hi : DI X W tg iter ti) (hg : DG X tg g) (hb : DSs X W body t) (hs : ∀ x, foldedSetIterable iter X.env x = pure x := by intro _; rfl) : DS X W (.For tg iter body [] pos) (dFor ti g t) :=
  ps_imp (ps_for G.po G.calm hi hg hb hs) fun T σ H ⟨ρ, ω, DD, a, q, k⟩ => by
  refine ⟨ρ, ω, _, _, a, q, fun ds gd ω1 J H1 k1 r1 wk q1 => ?_, k.xk a⟩
  refine ⟨fun i m σ' H' => m = ds.length - i ∧ i ≤ ds.length ∧ ∃ ρ' ω', At X.K σ' H' ρ' ω' ∧ Kp (dm ω1) H1 (dm ω') H' ∧ forL g t gd (ds.drop i) DD ρ' ω', ⟨ds.length, by simp, Nat.zero_le _, ρ, ω1, a.on k1 r1, Kp.refl, by rw [List.drop_zero]; exact q1⟩, ?_⟩
  rintro i m σ' H' ⟨rfl, hi, ρ', ω', a', k', q'⟩
  obtain ⟨w1, w2⟩ := wk i H' ω' k' a'.h (forL_gd q')
  cases e : ds[i]? with
  | none =>
    have hl : ds.drop i = [] := by rw [List.drop_eq_nil_iff]; exact List.getElem?_eq_none_iff.mp e
    rw [hl] at q'
    exact .inl ⟨w2 e hi, k.nx _ _ _ _ (k1.trans k') a' q'.2⟩
  | some d =>
    have hlt : i < ds.length := (List.getElem?_eq_some_iff.mp e).1
    have hd : ds.drop i = d :: ds.drop (i + 1) := by
      rw [List.drop_eq_getElem_cons hlt]
      rw [List.getElem?_eq_getElem hlt] at e
      cases e
      rfl
    rw [hd] at q'
    obtain ⟨w3, w4⟩ := w1 d e
    refine .inr ⟨w3, fun σ2 H2 => ∃ ρ' ω', At X.K σ2 H2 ρ' ω' ∧ Kp (dm ω1) H1 (dm ω') H2 ∧ forL g t gd (ds.drop (i + 1)) DD ρ' ω', fun σ2 H2 z => ⟨ds.length - (i + 1), by omega, rfl, hlt, z⟩, fun x H2 y => ?_⟩
    obtain ⟨k2, r2, p2⟩ := w4 x H2 y
    refine ⟨ρ', ω', d, _, a'.on k2 r2, p2, q'.2, fun ρ3 ω3 σ3 H3 k3 a3 q3 => ⟨ρ3, ω3, _, a3, q3, ?_⟩⟩
    have k5 := (k'.trans k2).trans k3
    have k4 := k1.trans k5
    exact ⟨fun ρ4 ω4 σ4 H4 p a4 z => ⟨ρ4, ω4, a4, k5.trans p, z⟩, (k.on k4).rt, fun ρ4 ω4 σ4 H4 p a4 z => k.nx ρ4 ω4 σ4 H4 (k4.trans p) a4 z, fun ρ4 ω4 σ4 H4 p a4 z => ⟨ρ4, ω4, a4, k5.trans p, z⟩, (k.on k4).ex⟩
end
end DL
end

section
set_option Elab.async false
set_option linter.all false
set_option maxRecDepth 100000
namespace DL
open PySem PySem.Spec L2
open PyProof.Rows hiding St
section
variable {X : Cx} {W : WX} {k : Nat} {st : Stmt} {sts b1 b2 body : List Stmt} {t u : DTS} {e a b c iter tg elt : Expr} {es ifs : List Expr} {te ta tb : DTE} {tt : DTT} {tas : DTA} {pos p : Pos}
/-! ### comprehensions -/
def wipeR (ρ : Rho) : List Nat → Rho
  | [] => ρ
  | v :: vs => (wipeR ρ vs).set v none
theorem RelS.wipe {K : PySem.W.Frag} {H : Hp} {O : Addr → Prop} {ρ : Rho} {σ : St} (r : RelS K H O ρ σ) : ∀ vs : List Nat, RelS K H O (wipeR ρ vs) (L2.wipe σ vs)
  | [] => r
  | v :: vs => (RelS.wipe r vs).forget v
theorem set_none_comm {l : St} {i j : Nat} : (l.set i none).set j none = (l.set j none).set i none := by
  by_cases h : i = j
  · subst h; rfl
  · exact List.set_comm none none h
theorem wipe_set_in {σ : St} {i : Nat} {v : Option V} : ∀ {vs : List Nat}, i ∈ vs → L2.wipe (σ.set i v) vs = L2.wipe σ vs
  | [], h => by cases h
  | w :: vs, h => by
    unfold L2.wipe
    by_cases hw : i ∈ vs
    · rw [wipe_set_in hw]
    · have e : i = w := by rcases List.mem_cons.mp h with h | h; exact h; exact absurd h hw
      subst e
      have aux : ∀ {us : List Nat}, i ∉ us → L2.wipe (σ.set i v) us = (L2.wipe σ us).set i v := by
        intro us
        induction us with
        | nil => intro _; rfl
        | cons u us ih =>
          intro hu
          unfold L2.wipe
          rw [ih (fun z => hu (List.mem_cons_of_mem _ z))]
          exact List.set_comm _ _ (fun z => hu (by rw [z]; exact List.mem_cons_self))
      rw [aux hw, List.set_set]
theorem wipe_wipe {σ : St} : ∀ {vs : List Nat}, L2.wipe (L2.wipe σ vs) vs = L2.wipe σ vs := by
  have aux : ∀ (us vs : List Nat), (∀ i ∈ us, i ∈ vs) → L2.wipe (L2.wipe σ us) vs = L2.wipe σ vs := by
    intro us
    induction us with
    | nil => intro vs _; rfl
    | cons u us ih =>
      intro vs h
      show L2.wipe ((L2.wipe σ us).set u none) vs = _
      rw [wipe_set_in (h u List.mem_cons_self)]
      exact ih vs fun i hi => h i (List.mem_cons_of_mem _ hi)
  intro vs
  exact aux vs vs fun _ h => h
/-- a target that stores its own names alone -/
structure DGo (X : Cx) (vs : List Nat) (tg : Expr) (g : DTG) : Prop where
  ok : ∃ gV, PG X tg gV ∧ ∀ v σ H ρ ω d Qd (Q : St → Hp → Prop), At X.K σ H ρ ω → Rep X.K H (dm ω) d v → g d ρ ω Qd →
    (∀ ρ' ω' σ' H', L2.wipe σ' vs = L2.wipe σ vs → Kp (dm ω) H (dm ω') H' → At X.K σ' H' ρ' ω' → Qd ρ' ω' → Q σ' H') → gV v σ H Q
structure DGos (X : Cx) (vs : List Nat) (tg : List Expr) (g : DTGs) : Prop where
  ok : ∃ gV, PGs X tg gV ∧ ∀ us σ H ρ ω ds Qd (Q : St → Hp → Prop), At X.K σ H ρ ω → Reps X.K H (dm ω) ds us → g ds ρ ω Qd →
    (∀ ρ' ω' σ' H', L2.wipe σ' vs = L2.wipe σ vs → Kp (dm ω) H (dm ω') H' → At X.K σ' H' ρ' ω' → Qd ρ' ω' → Q σ' H') → gV us σ H Q
theorem dgo_name {vs : List Nat} {i : Nat} {x : Str} (h : PG X (.Name x pos) (gName i)) (hi : i ∈ vs := by decide) : DGo X vs (.Name x pos) (gN i) :=
  ⟨_, h, fun v σ H ρ ω d Qd Q a r q hk => hk _ _ _ _ (wipe_set_in hi) Kp.refl ⟨a.s.set i r, a.h⟩ q⟩
theorem dgos_nil {vs : List Nat} : DGos X vs [] gsNil := ⟨_, pgs_nil, fun us σ H ρ ω ds Qd Q a r q hk => by
  cases ds with
  | nil => unfold Reps at r; exact ⟨r, hk _ _ _ _ rfl Kp.refl a q⟩
  | cons d ds => exact q.elim⟩
theorem dgos_cons {vs : List Nat} {t : DTG} {u : DTGs} (h1 : DGo X vs e t) (h2 : DGos X vs es u) (hs : (assignEach (e :: es) X.env).map (·.2) = assign e X.env :: (assignEach es X.env).map (·.2) := by rfl) : DGos X vs (e :: es) (gsCons t u) := by
  obtain ⟨g1, p1, q1⟩ := h1.ok
  obtain ⟨g2, p2, q2⟩ := h2.ok
  refine ⟨_, pgs_cons p1 p2 hs, fun us σ H ρ ω ds Qd Q a r q hk => ?_⟩
  cases ds with
  | nil => exact q.elim
  | cons d ds =>
    unfold Reps at r
    obtain ⟨v, vr, rfl, r1, r2⟩ := r
    refine ⟨v, vr, rfl, q1 v σ H ρ ω d _ _ a r1 q fun ρ' ω' σ' H' w kp a' q' => ?_⟩
    exact q2 vr σ' H' ρ' ω' ds Qd _ a' (r2.keep kp) q' fun ρ2 ω2 σ2 H2 w2 kp2 a2 z => hk ρ2 ω2 σ2 H2 (w2.trans w) (kp.trans kp2) a2 z
theorem dgo_tup {vs : List Nat} {kk : Nat} {u : DTGs} {n : Nat} (hc : X.calm = true) (h : DGos X vs es u) (hn : (assignEach es X.env).length = n := by rfl) (hst : (assignEach es X.env).findIdx? (·.1) = none := by rfl) : DGo X vs (.Tuple es kk pos) (gT n u) := by
  obtain ⟨g1, p1, q1⟩ := h.ok
  refine ⟨_, pg_tup hc p1 hn hst, fun v σ H ρ ω d Qd Q a r q hk => ?_⟩
  cases d with
  | tup ds =>
    obtain ⟨p, xs, rfl, h1, h2⟩ := r.tup_seq
    exact ⟨p, xs, rfl, h1, by rw [h2.length]; exact q.1, q1 xs σ H ρ ω ds Qd _ a h2 q.2 hk⟩
  | _ => exact q.elim
/-- the tests of a clause -/
abbrev W0 : WX := fun _ _ _ _ => False
abbrev DTs (X : Cx) (ifs : List Expr) (t : DTT) : Prop := PTs X ifs (cT X.K W0 t)
theorem pts_imp {X : Cx} {ifs : List Expr} {t t' : TT} (h : PTs X ifs t) (i : ∀ σ H Q, t' σ H Q → t σ H Q) : PTs X ifs t' := ⟨fun pins s σ H Q I q => h.run pins s σ H Q I (i _ _ _ q)⟩
def dYes : DTT := fun _ ω Q _ => Q true ω
theorem dts_nil : DTs X [] dYes := pts_imp pts_nil fun σ H Q ⟨ρ, ω, Qd, Ed, a, q, hv, he⟩ => hv true ω H Kp.refl a.h q
theorem dts_one (h : DT X W0 c tt) : DTs X [c] tt := pts_one h
abbrev X0 : DX := fun _ _ => False
/-- what one turn does with its element -/
def lcAdd (D : Addr) (n : Sto → Prop) (e : _root_.DL.D) (ω : Sto) : Prop := match ω D with
  | some (.lst acc) => acc.length < sizeLine ∧ n (put ω D (.lst (acc ++ [e])))
  | _ => False
def lcL (D : Addr) (g : DTG) (tt : DTT) (te : DTE) (gd : Sto → Prop) (ρ : Rho) (n : Sto → Prop) : List _root_.DL.D → Sto → Prop
  | [], ω => gd ω ∧ n ω
  | d :: ds, ω => gd ω ∧ g d ρ ω fun ρ1 ω1 => tt ρ1 ω1 (fun b ω2 => if b = true then te ρ1 ω2 (lcAdd D (lcL D g tt te gd ρ n ds)) X0 else lcL D g tt te gd ρ n ds ω2) X0
/-- the list that was made -/
def lcEnd (m : Bool) (D : Addr) (Q : DQ) (ω : Sto) : Prop := match ω D with
  | some (.lst acc) => if m = true then Q (.ref D) ω else Q (.lst acc) (cut ω D)
  | _ => False
def dLc (m : Bool) (ti : DTI) (g : DTG) (tt : DTT) (te : DTE) (vs : List Nat) : DTE := fun ρ ω Q E => ti ρ ω (fun ds gd ω1 => ∀ D, ω1 D = none → lcL D g tt te gd (wipeR ρ vs) (lcEnd m D Q) ds (put ω1 D (.lst []))) E
theorem lcL_gd {D : Addr} {g : DTG} {gd : Sto → Prop} {ρ : Rho} {n : Sto → Prop} {ds : List _root_.DL.D} {ω : Sto} (h : lcL D g tt te gd ρ n ds ω) : gd ω := by
  cases ds with
  | nil => exact h.1
  | cons d ds => exact h.1
/-- D is closed, or left open -/
theorem lcEnd.ok {K : PySem.W.Frag} {m : Bool} {D : Addr} {Qd : DQ} {Q : VK} {ω ω1 : Sto} {H H1 : Hp} (h : lcEnd m D Qd ω1) (r : RelH K H1 ω1) (kp : Kp (dm ω) H (dm ω1) H1) (hv : Vk K ω H Qd Q) : Q (.ref D) H1 := by
  unfold lcEnd at h
  split at h
  · rename_i acc e
    by_cases hm : m = true
    · rw [if_pos hm] at h
      exact hv _ _ _ _ kp r rep_ref h
    · rw [if_neg hm] at h
      exact hv _ _ _ _ (kp.trans Kp.closed) r.closed (close_lst r e) h
  · exact h.elim
/-- the block's part of the context -/
abbrev blkX (X : Cx) (scope : Scope) (s : Shared) (H : Hp) (C : Addr) (cl : List (Str × Addr)) (fp : List Addr) : Cx := X.blk s H scope (compEnvC scope cl C X.env) fp
theorem lc_ent {K : PySem.W.Frag} {m : Bool} {ti : DTI} {g : DTG} {gV : TG} {vs : List Nat}
    (hgo : ∀ v σ H ρ ω d Qd (Q : St → Hp → Prop), At K σ H ρ ω → Rep K H (dm ω) d v → g d ρ ω Qd → (∀ ρ' ω' σ' H', L2.wipe σ' vs = L2.wipe σ vs → Kp (dm ω) H (dm ω') H' → At K σ' H' ρ' ω' → Qd ρ' ω' → Q σ' H') → gV v σ H Q)
    (σ : St) (H : Hp) (Q : VK) (h : cE K W (dLc m ti g tt te vs) σ H Q) : tLc (cI K W ti) gV (cT K W0 tt) (cE K W0 te) vs σ H Q := by
  obtain ⟨ρ, ω, Qd, Ed, a, q, hv, he⟩ := h
  refine ⟨ρ, ω, _, Ed, a, q, fun ds gd ω1 J H1 k1 r1 wk q1 => ?_, he⟩
  intro D hD
  have q2 := q1 D (r1.free hD)
  obtain ⟨k2, r2⟩ := lay_lst (ds := []) (vs := []) r1 hD Reps.nil
  refine ⟨fun i m' H' => m' = ds.length - i ∧ i ≤ ds.length ∧ ∃ ω', Kp (dm ω) H (dm ω') H' ∧ Kp (dm ω1) H1 (dm ω') H' ∧ RelH K H' ω' ∧ lcL D g tt te gd (wipeR ρ vs) (lcEnd m D Qd) (ds.drop i) ω',
    ⟨ds.length, by simp, Nat.zero_le _, _, k1.trans k2, k2, r2, by rw [List.drop_zero]; exact q2⟩, ?_⟩
  rintro i m' H' ⟨rfl, hi, ω', k0', k', r', q'⟩
  obtain ⟨w1, w2⟩ := wk i H' ω' k' r' (lcL_gd q')
  cases e : ds[i]? with
  | none =>
    have hl : ds.drop i = [] := by rw [List.drop_eq_nil_iff]; exact List.getElem?_eq_none_iff.mp e
    rw [hl] at q'
    exact .inl ⟨w2 e hi, q'.2.ok r' k0' hv⟩
  | some d =>
    have hlt : i < ds.length := (List.getElem?_eq_some_iff.mp e).1
    have hd : ds.drop i = d :: ds.drop (i + 1) := by
      rw [List.drop_eq_getElem_cons hlt]
      rw [List.getElem?_eq_getElem hlt] at e
      cases e
      rfl
    rw [hd] at q'
    obtain ⟨w3, w4⟩ := w1 d e
    refine .inr ⟨w3, fun H2 => ∃ ω2, Kp (dm ω) H (dm ω2) H2 ∧ Kp (dm ω1) H1 (dm ω2) H2 ∧ RelH K H2 ω2 ∧ lcL D g tt te gd (wipeR ρ vs) (lcEnd m D Qd) (ds.drop (i + 1)) ω2, fun H2 z => ⟨ds.length - (i + 1), by omega, rfl, hlt, z⟩, fun x H2 y => ?_⟩
    obtain ⟨ky, ry, py⟩ := w4 x H2 y
    refine hgo x (L2.wipe σ vs) H2 (wipeR ρ vs) ω' d _ _ ⟨((a.s.keep k0').keep ky).wipe vs, ry⟩ py q'.2 fun ρ3 ω3 σ3 H3 wz k3 a3 q3 => ?_
    have kk : Kp (dm ω1) H1 (dm ω3) H3 := (k'.trans ky).trans k3
    have kk0 : Kp (dm ω) H (dm ω3) H3 := (k0'.trans ky).trans k3
    refine ⟨by rw [wz, wipe_wipe], ρ3, ω3, _, X0, a3, q3, fun b ω4 H4 k4 r4 q4 => ?_, fun _ _ _ _ _ _ _ _ z => z.elim⟩
    cases b with
    | false => exact ⟨ω4, kk0.trans k4, kk.trans k4, r4, q4⟩
    | true =>
      refine ⟨ρ3, ω4, _, X0, a3.on k4 r4, q4, fun z ω5 v5 H5 k5 r5 p5 q5 => ?_, fun _ _ _ _ _ _ _ _ z => z.elim⟩
      unfold lcAdd at q5
      split at q5
      · rename_i acc ea
        obtain ⟨xs, h1, h2⟩ := r5 D _ ea
        obtain ⟨k6, r6⟩ := put_lst r5 ea (h2.append (Reps.cons p5 Reps.nil))
        exact ⟨xs, h1, by rw [h2.length]; exact q5.1, _, ((kk0.trans k4).trans k5).trans k6, ((kk.trans k4).trans k5).trans k6, r6, q5.2⟩
      · exact q5.elim
theorem de_lc {scope : Scope} {own : List (Str × Nat)} {ti : DTI} {g : DTG} (m : Bool) (G : Good X k W) (hi : DI X W tg iter ti) (ok : BlkOk X.N X.env.scope scope own)
    (hg : ∃ gV : TG, (∀ s H C cl fp, PG (blkX X scope s H C cl fp) tg gV) ∧ ∀ v σ H ρ ω d Qd (Q : St → Hp → Prop), At X.K σ H ρ ω → Rep X.K H (dm ω) d v → g d ρ ω Qd →
      (∀ ρ' ω' σ' H', L2.wipe σ' (own.map (·.2)) = L2.wipe σ (own.map (·.2)) → Kp (dm ω) H (dm ω') H' → At X.K σ' H' ρ' ω' → Qd ρ' ω' → Q σ' H') → gV v σ H Q)
    (ht : ∀ s H C cl fp, DTs (blkX X scope s H C cl fp) ifs tt) (he : ∀ s H C cl fp, DE (blkX X scope s H C cl fp) W0 elt te) (hs : ∀ x, foldedSetIterable iter X.env x = pure x := by intro _; rfl) :
    DE X W (.ListComp elt [⟨tg, iter, ifs, 0⟩] scope pos) (dLc m ti g tt te (own.map (·.2))) := by
  obtain ⟨gV, h1, h2⟩ := hg
  exact pe_imp (pe_lc G.calm G.nd hi ok h1 ht he hs) (lc_ent h2)
end
end DL
end

section
set_option Elab.async false
set_option linter.all false
set_option maxRecDepth 100000
set_option maxHeartbeats 1000000
/-! DLX: own error classes over ValueError: `super().__init__(g); self.g = g`. -/
namespace DL
open PySem PySem.Spec PySem.Calls PySem.W PySem.HandSPX
open PyProof.Rows hiding wpAt wpAt_bind wpAt_stack

/-! ### a class called with names: the object is made, the own __init__ called -/
section
variable {M : Model} {A : Around} {E : Value → Shared → Prop} {h : Heap} {g : Array GenState} {d : Drawn} {t : Nat} {os : OsState}
variable {nm q : Str} {C N : Addr} {bs bm bmB : List Value} {hdct : Bool} {sn : List Str} {sub : List Value} {ab : Bool} {col : Option Bool} {dd : Option Addr} {k0 k1 k2 k3 k5 : Option Value} {B newId initId : String}
theorem chk_varkw (f sh full short : String) (r : Manifest.Receiver) (n : Nat) (ks : List Str) : Bind.check ⟨.any, f, sh, r, [⟨"args", .varPos, false⟩, ⟨"kwargs", .varKw, false⟩]⟩ full short n ks = pure () := by
  cases ks <;> simp [Bind.check, Bind.checkCount, Bind.isPositional]
theorem chk_new_kw (F : ExcBaseFacts B newId initId bmB) (hT : ∀ X : String, bm.contains (.type X) = bmB.contains (.type X)) {rest : List Value} {kw : List (Str × Value)} {Q : Unit → Shared → Prop}
    (hC : h.get? C = some (excClassObj nm q C N bs bm hdct sn sub ab col dd k0 k1 k2 k3 k5 newId)) (hq : Q () ⟨h, g, d, t, os⟩) : wpAny M A (checkBuiltinCall newId ⟨.ref C :: rest, kw⟩) Q E ⟨h, g, d, t, os⟩ := by
  have hcont : (Value.ref C :: bm).contains (.type B) = true := by rw [List.contains_cons, hT, F.hasB, Bool.or_true]
  have hstar := F.noStar
  simp only [checkBuiltinCall, F.newKind, F.newSplit, F.newRow]
  repeat (first | refine wpAny_loadPart_at hC ?_ | (refine wpAny_isSubtype_exc hC ?_; rw [hcont]) | refine wpAny_staticBase_exc hC ?_ | refine wpAny_madeBy_exc hC ?_ | simp only [bne_self_eq_false, Bool.false_eq_true, if_false] | wp_step)
  all_goals exact hq
end
section
variable {prog : Program} {w : World} {A : Around} {E : Value → Shared → Prop} {R : Result → Shared → Prop} {h : Heap} {g : Array GenState} {d : Drawn} {t : Nat} {os : OsState}
variable {nm q : Str} {C N : Addr} {bs bm bmB : List Value} {hdct : Bool} {sn : List Str} {sub : List Value} {ab : Bool} {col : Option Bool} {dd : Option Addr} {k0 k1 k2 k3 k5 : Option Value} {B newId initId : String}
theorem new_kw (F : ExcBaseFacts B newId initId bmB) (hT : ∀ X : String, bm.contains (.type X) = bmB.contains (.type X)) {rest : List Value} {kw : List (Str × Value)}
    (hC : h.get? C = some (excClassObj nm q C N bs bm hdct sn sub ab col dd k0 k1 k2 k3 k5 newId)) (hrest : rest.length ≤ sizeLine)
    (hq : R (.ok (.ret (.ref (h.objs.size + 1)))) ⟨(h.push (kdv_tup rest)).push (excO C h.objs.size), g, d, t, os⟩) :
    codeAny (model prog w) A (.builtin newId ⟨.ref C :: rest, kw⟩) R ⟨h, g, d, t, os⟩ := by
  have hends := F.ends
  have c1 : (Value.ref C :: bm).contains (.type B) = true := by rw [List.contains_cons, hT, F.hasB, Bool.or_true]
  have c2 : (Value.ref C :: bm).contains (.type "AttributeError") = false := by rw [List.contains_cons, hT, F.noAttr]; rfl
  have c3 : (Value.ref C :: bm).contains (.type "NameError") = false := by rw [List.contains_cons, hT, F.noName]; rfl
  refine codeAny_builtinAt F.entry ?_
  unfold Builtin.«BaseException.__new__»
  refine wpAt_bind ?_
  show wpAt _ _ _ (stack >>= _) _ _ _
  refine wpAt_bind (wpAt_stack fun p below => wpAt_of_wpAny ?_)
  wp_walk
  refine wpAt_of_wpAny ?_
  rw [F.owner]
  repeat (first | with_reducible refine wpAny_madeHere_exc F.canon hC ?_ | with_reducible refine wpAny_loadPart_at hC ?_ | (with_reducible refine wpAny_isSubtype_exc hC ?_; first | rw [c1] | rw [c2] | rw [c3]) | wp_step)
  show R _ _
  rw [Heap.size_push]
  exact hq
theorem type_kw (F : ExcBaseFacts B newId initId bmB) (hT : ∀ X : String, bm.contains (.type X) = bmB.contains (.type X)) {rest : List Value} {kw : List (Str × Value)} {fI : Addr} {Q : Fin → Shared → Prop}
    (hC : h.get? C = some (excClassObj nm q C N bs bm hdct sn sub ab col dd k0 k1 k2 k3 k5 newId))
    (hi : Looks (model prog w) h (typeLookup (.ref C) "__init__") (some (.ref fI))) (hb : ∀ self, Looks (model prog w) h (bindSpecial (.ref fI) self) (.ref fI, [self])) (hrest : rest.length ≤ sizeLine)
    (hq : codeAny (model prog w) A (.call (.ref fI) ⟨.ref (h.objs.size + 1) :: rest, kw⟩)
      (fun r s' => match r with | .ok (.ret v) => v = .none ∧ Q (.done (.ret (.ref (h.objs.size + 1)))) s' | .ok _ => False | .error e => E e s')
      ⟨(h.push (kdv_tup rest)).push (excO C h.objs.size), g, d, t, os⟩) :
    wpAny (model prog w) A (Builtin.«type.__call__» ⟨.ref C :: rest, kw⟩) Q E ⟨h, g, d, t, os⟩ := by
  repeat (first | with_reducible refine wpAny_loadPart_at hC ?_ | with_reducible refine wpAny_madeBy_exc hC ?_ | wp_step)
  refine codeAny_call_builtin_code (Code.quiet_builtin _ F.quiet) (chk_new_kw F hT hC ?_)
  refine new_kw F hT hC hrest ?_
  show wpAny _ _ _ _ _ _
  have k : ∀ b o, h.get? b = some o → ((h.push (kdv_tup rest)).push (excO C h.objs.size)).get? b = some o := fun b o e => Heap.get?_push_of_some _ (Heap.get?_push_of_some _ e)
  have hC₁ := k _ _ hC
  have hget : ((h.push (kdv_tup rest)).push (excO C h.objs.size)).get? (h.objs.size + 1) = some (excO C h.objs.size) := by heap_get
  have hcC : (Value.ref C :: bm).contains (.ref C) = true := by simp
  have i1 := hi.keeps k
  have b1 := (hb (.ref (h.objs.size + 1))).keeps k
  unfold isInstance
  repeat (first | with_reducible refine wpAny_loadPart_at hget ?_ | (with_reducible refine wpAny_isSubtype_exc hC₁ ?_; rw [hcC]) | wp_step)
  show wpAny _ _ (typeLookup (.ref C) _) _ _ _
  refine i1.at ?_
  refine wpAny_holding (wpAny_bind (b1.at ?_))
  refine wpAny_bind (wpAny_call (codeAny_mono hq fun r s' z => ?_))
  rcases r with e | (v | _ | _ | _) <;> first | exact z | exact z.elim | skip
  obtain ⟨rfl, z⟩ := z
  first
    | exact wpAny_pure (wpAny_pure z)
    | (wp_walk; exact z)
theorem call_kw (F : ExcBaseFacts B newId initId bmB) (hT : ∀ X : String, bm.contains (.type X) = bmB.contains (.type X)) {rest : List Value} {kw : List (Str × Value)} {fI : Addr}
    (hC : h.get? C = some (excClassObj nm q C N bs bm hdct sn sub ab col dd k0 k1 k2 k3 k5 newId))
    (hi : Looks (model prog w) h (typeLookup (.ref C) "__init__") (some (.ref fI))) (hb : ∀ self, Looks (model prog w) h (bindSpecial (.ref fI) self) (.ref fI, [self])) (hrest : rest.length ≤ sizeLine)
    (hq : codeAny (model prog w) (A.under (.builtin "type.__call__" ⟨.ref C :: rest, kw⟩)) (.call (.ref fI) ⟨.ref (h.objs.size + 1) :: rest, kw⟩) (InitBack (h.objs.size + 1) R)
      ⟨(h.push (kdv_tup rest)).push (excO C h.objs.size), g, d, t, os⟩) :
    codeAny (model prog w) A (.call (.ref C) ⟨rest, kw⟩) R ⟨h, g, d, t, os⟩ := by
  have f1 := tc_lookup
  have f2 := tc_bind (.ref C)
  have hTy : (⟨h, g, d, t, os⟩ : Shared).TypeIs (.ref C) "type" := ⟨_, hC, rfl⟩
  refine codeAny_of_tree ?_
  show wpAny _ _ (callAny (.ref C) _) _ _ _
  repeat (any_goals (first | assumption | with_reducible refine wpAny_loadPart_at hC ?_ | wp_step))
  refine ⟨rfl, ?_⟩
  refine codeAny_call_builtin_at (Code.quiet_builtin _ (by decide +kernel)) entry_typeCall (wpAny_check_type_call_sub hC (type_kw F hT hC hi hb hrest ?_))
  refine codeAny_mono hq fun r s' z => ?_
  rcases r with e | (v | _ | _ | _) <;> exact z
end
end DL
end

section
set_option Elab.async false
set_option linter.all false
set_option maxRecDepth 100000
set_option maxHeartbeats 1000000
/-! DLY: the own __init__ of such classes, walked. -/
namespace DL
open PySem PySem.Spec PySem.Calls PySem.W PySem.HandSPX
open PyProof.Rows hiding wpAt wpAt_bind wpAt_stack

/-! ### the own __init__ -/
/-- the body «super().__init__(g); self.g = g» -/
def iniBody (g : Str) (a1 a2 a3 a4 a5 a6 b1 b2 b3 b4 : Pos) : List Stmt :=
  [.Expr (.Call (.Attribute (.Call (.Name "super" a1) [] [] a2) "__init__" a3) [.Name g a4] [] a5) a6, .Assign [.Attribute (.Name "self" b1) g b2] (.Name g b3) b4]
/-- what is plain to see of the def -/
structure IniS (g : Str) (st : Stmt) : Prop where
  body : ∃ a1 a2 a3 a4 a5 a6 b1 b2 b3 b4, L2.defBody st = iniBody g a1 a2 a3 a4 a5 a6 b1 b2 b3 b4 ∧ (a3.endLine == a5.line) = true
  kind : (L2.defScope st).kind = .function
  co : (L2.defScope st).isCoroutine = false
  gen : (L2.defScope st).isGenerator = false
  cell : ∀ x ∈ (L2.defScope st).names, x.2 ≠ .cell
  nS : (L2.defScope st).names.lookup ("self" : Str) = some .local
  nG : (L2.defScope st).names.lookup g = some .local
  nU : (L2.defScope st).names.lookup ("super" : Str) = some .globalImplicit
  nC : (L2.defScope st).names.lookup ("__class__" : Str) = some .free
  arg : ((L2.defArgs st).posonlyargs ++ (L2.defArgs st).args).head?.map (·.arg) = some "self"
  b1 : ∀ qual bd kV doc pm an cd ct cc (x v : Value), bindArgs (ksFn "__init__" qual (L2.defArgs st) bd (L2.defScope st) .none kV doc pm an cd ct cc) ⟨[x, v], []⟩ = pure [(("self" : Str), x), (g, v)]
  b2 : ∀ qual bd kV doc pm an cd ct cc (x v : Value), bindArgs (ksFn "__init__" qual (L2.defArgs st) bd (L2.defScope st) .none kV doc pm an cd ct cc) ⟨[x], [(g, v)]⟩ = pure [(("self" : Str), x), (g, v)]
  ne : (("self" : Str) == g) = false
  nd : (g == ("__debug__" : Str)) = false
/-- what the written part says of an own error class with such an __init__ -/
structure ErrC (prog : Program) (K : Frag) (C : Addr) (g : Str) (st : Stmt) : Prop where
  cls : ∃ nm q N bs bm sn sub ab col dd k0 k1 k2 k3 k5, K.lookup C = some (excClassObj nm q C N bs bm true sn sub ab col dd k0 k1 k2 k3 k5 "ValueError.__new__") ∧ refsVE bm = true
  sa : findIn K (.ref C) "__setattr__" = some (some (.builtin "object.__setattr__"))
  kC : keepIn K (.ref C) = true
  ini : ∃ fI cda cc qual oc od kV doc pm an ct osl, findIn K (.ref C) "__init__" = some (some (.ref fI)) ∧ typeIn K (.ref fI) = some (.type "function") ∧
    K.lookup fI = some ⟨oc, od, .func (ksFn "__init__" qual (L2.defArgs st) (L2.defBody st) (L2.defScope st) .none kV doc pm an (.ref cda) ct cc), osl⟩ ∧ codeIn K (.ref cda) qual = true ∧
    (∃ ccl cdd vs ccs file tf, K.lookup cda = some ⟨ccl, cdd, .fields vs, ccs⟩ ∧ vs[2]? = some (.str file tf) ∧ ((prog.main.file : Str) == file) = true) ∧
    ∃ cl cld csl, K.lookup cc = some ⟨cl, cld, .cell (some (.ref C)), csl⟩
  top : (prog.main.scope.names.lookup ("super" : Str)).isSome = false
  sup : ks_superIn K C C "__init__" = some (some (.builtin "ValueError.__init__"))
  opq : nsIn K cStatics "thirdparty.any" = some none
  sub : subIn K (.ref C) (.type "ValueError") = some true
  own : mroIn K C (.ref C) = some true
  fld : findIn K (.ref C) g = some none

section
variable {prog : Program} {w : World} {A : Around} {E : Value → Shared → Prop} {h : Heap} {gn : Array GenState} {d : Drawn} {t : Nat} {os : OsState}
/-- ValueError.__init__ bound to the exception, called -/
theorem call_mw {nm q : Str} {C N : Addr} {bs bm : List Value} {hdct : Bool} {sn : List Str} {sub : List Value} {ab : Bool} {col : Option Bool} {dd : Option Addr} {k0 k1 k2 k3 k5 : Option Value} {u e t0 : Addr} {rest : List Value} {Q : Value → Shared → Prop}
    (hC : h.get? C = some (excClassObj nm q C N bs bm hdct sn sub ab col dd k0 k1 k2 k3 k5 "ValueError.__new__")) (he : h.get? e = some (excO C t0)) (hu : h.get? u = some (kxs_mw "ValueError.__init__" e)) (hz : rest.length ≤ sizeLine)
    (hq : ∀ h' t1, (∀ b o, b ≠ e → h.get? b = some o → h'.get? b = some o) → h'.get? e = some (excO C t1) → Q .none ⟨h', gn, d, t, os⟩) :
    wpAny (model prog w) A (call (.ref u) rest) Q E ⟨h, gn, d, t, os⟩ := by
  refine wpAny_call (codeAny_of_tree ?_)
  show wpAny _ A.in1 (callAny (.ref u) ⟨rest, []⟩) _ _ _
  simp only [callAny]
  refine wpAny_bind (wpAny_load hu ?_)
  simp only [kxs_mw, show (Value.type "method-wrapper" == Value.type "method" || Value.type "method-wrapper" == Value.type "builtin_function_or_method" || Value.type "method-wrapper" == Value.type "method-wrapper") = true by decide, if_true]
  refine KFB.if_so (by decide) ?_
  refine wpAny_bind (check_bound_init F.excBase_ValueError.toExcCallFacts hC he rfl ?_)
  refine wpAny_bind (wpAny_pure (wpAny_pure ?_))
  refine ⟨plainId_quiet F.excBase_ValueError.init.plain _, codeAny_builtin F.excBase_ValueError.initEntry ?_⟩
  exact exc_init_tree (cls := .ref C) (t0 := t0) (dv := none) (c2 := .none) (c3 := .none) (b4 := .bool false) he hz fun h' k e' _ => hq h' _ k e'
theorem look_hit {a : Str} {v : Value} {l : List (Str × Value)} : List.lookup a ((a, v) :: l) = some v := by
  rw [List.lookup_cons, beq_self_eq_true]
theorem look_miss {a b : Str} {v : Value} {l : List (Str × Value)} (h : (a == b) = false) : List.lookup a ((b, v) :: l) = List.lookup a l := by
  rw [List.lookup_cons, h]
theorem two_look {g : Str} {x v : Value} (ne : (("self" : Str) == g) = false) : List.lookup ("self" : Str) [(g, v), ("self", x)] = some x := (look_miss ne).trans look_hit
theorem ini_run {K : Frag} {mg mb : Str → Option Value} {C e t0 fI : Addr} {g : Str} {st : Stmt} {args : Args} {v : Value} {R : Result → Shared → Prop} (S : IniS g st) (T : ErrC prog K C g st) (XK : K.In h) (hnl : h.NoLimit)
    (hg : h.Ns mainGlobals mg) (hms : mg "super" = none) (hb : h.Ns builtinsNs mb) (hbs : mb "super" = some (.type "super")) (hroom : A.depth < recursionLimit) (hfI : findIn K (.ref C) "__init__" = some (some (.ref fI)))
    (he : h.get? e = some (excO C t0)) (heK : ∀ b o, K.lookup b = some o → b ≠ e) (hargs : args = ⟨[.ref e, v], []⟩ ∨ args = ⟨[.ref e], [(g, v)]⟩)
    (hq : ∀ h' t' t1 dx, (∀ b o, b ≠ e → h.get? b = some o → h'.get? b = some o) → h.objs.size ≤ dx → dx ≠ e → h'.get? e = some ({ cls := .ref C, dict := some dx, data := .fields #[.ref t1, .none, .none, .none, .bool false, .none] } : Obj) →
      h'.Ns1 dx (fun y => if y = g then some v else none) → R (.ok (.ret .none)) ⟨h', gn, d, t', os⟩) :
    codeAny (model prog w) A (.call (.ref fI) args) R ⟨h, gn, d, t, os⟩ := by
  obtain ⟨fI', cda, cc, qual, oc, od, kV, doc, pm, an, ct, osl, hf, ty, lk, hcd, ⟨ccl, cdd, vs, ccs, file, tf, hcode, hvs, hfile⟩, cl, cld, csl, hcell⟩ := T.ini
  rw [hfI] at hf
  cases hf
  obtain ⟨nm, q, N, bs, bm, sn, sub, ab, col, dd, k0, k1, k2, k3, k5, hC, hbm⟩ := T.cls
  obtain ⟨a1, a2, a3, a4, a5, a6, b1, b2, b3, b4, hbody, hline⟩ := S.body
  obtain ⟨ar, hp, har⟩ : ∃ ar, ((L2.defArgs st).posonlyargs ++ (L2.defArgs st).args).head? = some ar ∧ ar.arg = "self" := by
    have := S.arg
    cases z : ((L2.defArgs st).posonlyargs ++ (L2.defArgs st).args).head? with
    | none => rw [z] at this; cases this
    | some ar => rw [z] at this; exact ⟨ar, rfl, Option.some.inj this⟩
  have hbind : BindsTo ⟨h, gn, d, t, os⟩ (ksFn "__init__" qual (L2.defArgs st) (L2.defBody st) (L2.defScope st) .none kV doc pm an (.ref cda) ct cc) args [(("self" : Str), Value.ref e), (g, v)] := by
    rcases hargs with rfl | rfl
    · exact .of_eq (S.b1 ..)
    · exact .of_eq (S.b2 ..)
  rw [hbody] at lk hbind
  refine ks_codeAny_call_defAt (fd := ksFn "__init__" qual (L2.defArgs st) (iniBody g a1 a2 a3 a4 a5 a6 b1 b2 b3 b4) (L2.defScope st) .none kV doc pm an (.ref cda) ct cc) (body := iniBody g a1 a2 a3 a4 a5 a6 b1 b2 b3 b4)
    (binds := [(("self" : Str), Value.ref e), (g, v)]) hroom (XK _ _ lk) rfl hnl (codeRec_of XK hcd) rfl hbind S.cell ?_ (fun h0 hns hk => ?_) S.co S.gen S.kind
  · intro x hx
    rcases List.mem_cons.mp hx with rfl | hx
    · exact S.nS
    · rcases List.mem_cons.mp hx with rfl | hx
      · exact S.nG
      · cases hx
  have X0 : K.In h0 := XK.keeps hk
  have he0 := hk _ _ he
  have hL : ∀ b o, h.get? b = some o → b ≠ h.objs.size := fun b o z => Nat.ne_of_lt (Heap.lt_size z)
  have cl0 : clsIn K C = some { name := nm, bases := bs, mro := .ref C :: bm, ns := N, qualname := q, hasDict := true, slotNames := sn, subclasses := sub, abstract := ab, collection := col, hasDel := false } := by unfold clsIn; rw [hC] <;> rfl
  have vS : List.lookup ("self" : Str) [(("self" : Str), Value.ref e), (g, v)].reverse = some (.ref e) := two_look S.ne
  have vG : List.lookup g [(("self" : Str), Value.ref e), (g, v)].reverse = some v := look_hit
  show PySem.wpAt (model prog w) (A.deeper (ksEnv qual (L2.defScope st) h.objs.size fI (.ref cda) cc)) (.func _ (ksEnv qual (L2.defScope st) h.objs.size fI (.ref cda) cc)) (execs _ (ksEnv qual (L2.defScope st) h.objs.size fI (.ref cda) cc)) _ _ _
  have hmc : eval (.Call (.Attribute (.Call (.Name "super" a1) [] [] a2) "__init__" a3) [.Name g a4] [] a5) (ksEnv qual (L2.defScope st) h.objs.size fI (.ref cda) cc) = (do
      let ov ← attributeBase (.Call (.Name "super" a1) [] [] a2) "__init__" (ksEnv qual (L2.defScope st) h.objs.size fI (.ref cda) cc) (eval (.Call (.Name "super" a1) [] [] a2) (ksEnv qual (L2.defScope st) h.objs.size fI (.ref cda) cc))
      standAt a3.atName
      let (f, first) ← holding [ov] (getMethod ov "__init__" (L2.plainOf (.Call (.Name "super" a1) [] [] a2) (ksEnv qual (L2.defScope st) h.objs.size fI (.ref cda) cc)))
      callWith a5 f first (backTo a5 (starEach [.Name g a4] (ksEnv qual (L2.defScope st) h.objs.size fI (.ref cda) cc))) []) := by
    have z : ∀ ov, methodCall (.Call (.Name "super" a1) [] [] a2) "__init__" a3 a5 (ksEnv qual (L2.defScope st) h.objs.size fI (.ref cda) cc) ov 1 (backTo a5 (starEach [.Name g a4] (ksEnv qual (L2.defScope st) h.objs.size fI (.ref cda) cc))) [] = _ := fun ov => L2.mcall_line rfl hline
    show (do
      let ov ← attributeBase _ _ _ _
      standAt a3.atName
      methodCall (.Call (.Name "super" a1) [] [] a2) "__init__" a3 a5 (ksEnv qual (L2.defScope st) h.objs.size fI (.ref cda) cc) ov 1 (backTo a5 (starEach [.Name g a4] (ksEnv qual (L2.defScope st) h.objs.size fI (.ref cda) cc))) []) = _
    simp only [z]
  refine ks_wpAt_execs_cons (ks_wpAt_Expr_any (ks_wpAt_MethodCall ?_ hmc) (by simp [interactive, S.kind]))
  refine ks_wpAt_super_base (env := ksEnv qual (L2.defScope st) h.objs.size fI (.ref cda) cc) S.nU S.nC (by decide) rfl (X0 _ _ lk) rfl hp rfl (X0 _ _ hcode) rfl hvs hfile T.top ?_
  rw [har]
  refine ks_loadName_global S.kind S.nU (Calls.loadGlobal_builtin (env := ksEnv qual (L2.defScope st) h.objs.size fI (.ref cda) cc) (hg.keeps hk) hms (hb.keeps hk) hbs ⟨rfl, ?_⟩)
  refine wpAny_loadName_free S.kind S.nC rfl ⟨_, X0 _ _ hcell, rfl⟩ ?_
  refine wpAny_loadName_local S.kind S.nS hns vS ?_
  refine ks_wpAny_isType_cls (X0 _ _ hC) rfl ⟨rfl, ?_⟩
  refine ks_wpAny_call_super (X0 _ _ hC) rfl he0 rfl (fun c z => by cases z) (looks_mroIn X0 T.own) (fun h1 e1 k1 => ?_)
  have X1 : K.In h1 := X0.keeps k1
  have he1 := k1 _ _ he0
  have I1 : InstAt h1 e (excO C t0) C none := ⟨he1, rfl, rfl, trivial⟩
  have hin : Looks (model prog w) h1 (isInstance (.ref e) (.type "ValueError")) true := I1.type.andThen (looks_subIn X1 T.sub)
  have hsup : alongIn K "__init__" (((Value.ref C :: bm).dropWhile (· != .ref C)).drop 1) = some (some (.builtin "ValueError.__init__")) := by
    have z := T.sup
    unfold ks_superIn at z
    rw [cl0] at z
    exact z
  refine kxs_getMethod kxs_ValueError e1 (looks_opaque X1 T.opq) (l₀ := Value.ref C :: bm) (fun A Q E s k y => wpAny_bind ((looks_clsIn X1 cl0) A _ E s k (wpAny_pure y))) rfl X1 hsup hin (ks_ne X1 I1 cl0) (by decide) ?_
  have k2 : ∀ b o, h1.get? b = some o → (h1.push (kxs_mw "ValueError.__init__" e)).get? b = some o := fun b o z => Heap.get?_push_of_some _ z
  have hu2 : (h1.push (kxs_mw "ValueError.__init__" e)).get? h1.objs.size = some (kxs_mw "ValueError.__init__" e) := Heap.get?_push_at rfl rfl
  have hns2 : (h1.push (kxs_mw "ValueError.__init__" e)).Ns h.objs.size (fun x => List.lookup x [(("self" : Str), Value.ref e), (g, v)].reverse) := (hns.keeps k1).keeps k2
  refine kxs_callWith (i := "ValueError.__init__") (u := h1.objs.size) (x := e) rfl (evalArgs_plain (Calls.spliced_cons ?_))
  refine wpAny_Name (wpAny_loadName_local S.kind S.nG hns2 vG (Calls.spliced_nil ⟨hu2, ?_⟩)) S.nd
  have X2 : K.In (h1.push (kxs_mw "ValueError.__init__" e)) := X1.keeps k2
  refine call_mw (rest := [v]) (X2 _ _ hC) (k2 _ _ he1) hu2 (by rw [sizeLine_eq]; exact Nat.le_of_lt (by show 1 < 16777216; decide)) fun h3 t1 k3 e3 => ?_
  have neL : h.objs.size ≠ e := fun z => hL _ _ he z.symm
  have hns3 : h3.Ns h.objs.size (fun x => List.lookup x [(("self" : Str), Value.ref e), (g, v)].reverse) := by
    obtain ⟨o, es, ep, hL2, r⟩ := hns2
    exact ⟨o, es, ep, k3 _ _ neL hL2, r⟩
  have X3 : K.In h3 := fun b o z => k3 _ _ (heK b o z) (X2 _ _ z)
  refine PySem.wpAt_of_wpAny (wpAny_execs_cons (plainObj_wpAny_Assign_Attribute ?_))
  refine wpAny_Name (wpAny_loadName_local S.kind S.nG hns3 vG ?_) S.nd
  refine wpAny_Name (wpAny_loadName_local S.kind S.nS hns3 vS ?_) (by decide)
  refine set_plain X3 (ox := excO C t1) (od := none) ⟨e3, rfl, rfl, trivial⟩ T.sa ?_
  refine exc_osa X3 e3 cl0 (show refsVE (.ref C :: bm) = true from hbm) rfl T.fld (fun h4 tk dx k4 dn dne hx hn => ?_)
  refine wpAny_execs_nil (hq h4 _ t1 dx (fun b o hb z => k4 b o hb (k3 b o hb (k2 _ _ (k1 _ _ (hk _ _ z))))) ?_ dne hx hn)
  obtain ⟨o, _, _, hL3, _⟩ := hns3
  exact Nat.le_trans (Nat.le_of_lt (Heap.lt_size hL3)) dn
end
end DL
end

section
set_option Elab.async false
set_option linter.all false
set_option maxRecDepth 100000
set_option maxHeartbeats 1000000
/-! DLZ: own error classes over data: made, raised, looked at. -/
namespace DL
open PySem PySem.Spec PySem.HandSPX L2
open PyProof.Rows hiding St
section
variable {X : Cx} {pins : List (Addr × Obj)} {σ : St} {H : Hp} {s : Shared} {k : Nat} {C : Addr} {g : Str} {st : Stmt}
/-- the object is there, with its dict -/
theorem inv_err {y : V} {u : Value} {a dx : Addr} {h' : Heap} {tk : Nat} {t1 : Addr} (I : Inv X pins σ H s) (kp : ∀ b o, s.heap.get? b = some o → h'.get? b = some o) (na : s.heap.objs.size ≤ a) (nd : s.heap.objs.size ≤ dx) (dne : dx ≠ a)
    (ha : h'.get? a = some ({ cls := .ref C, dict := some dx, data := .fields #[.ref t1, .none, .none, .none, .bool false, .none] } : Obj)) (hd : h'.Ns1 dx (fun z => if z = g then some u else none)) (r : RelV y u) :
    Inv X pins σ (upd (upd H dx (exd dx [(g, y)])) a (exo a C (some dx))) { s with heap := h', toks := tk } := by
  have hna : H a = none := I.hok.fresh na
  have hnd : H dx = none := I.hok.fresh nd
  have nb : ∀ {b : Addr} {o : Obj} {c : Addr}, s.heap.get? b = some o → s.heap.objs.size ≤ c → b ≠ c := fun {b o c} q l => Nat.ne_of_lt (Nat.lt_of_lt_of_le (Heap.lt_size q) l)
  refine I.un (t' := tk) (h' := h') { keep := fun b o q _ _ _ => kp b o q, slot := fun b o q _ _ _ => ⟨o.slots, kp b o q⟩, free := fun b o q n _ => by rw [upd_ne (nb q na), upd_ne (nb q nd)]; exact n, there := fun b o q _ => ⟨o, kp b o q⟩, tups := fun b xs q => by rw [upd_ne (ne_of_none q hna), upd_ne (ne_of_none q hnd)]; exact q, frzs := fun b o v q => by rw [upd_ne (ne_of_none q hna), upd_ne (ne_of_none q hnd)]; exact q, tbls := fun b ps q => ⟨#[], by rw [upd_ne (ne_of_none q hna), upd_ne (ne_of_none q hnd), q]; simp⟩ } fun b o q => ?_
  by_cases hb : b = a
  · subst hb
    rw [upd_same] at q
    cases q
    exact exo_ok ha
  · rw [upd_ne hb] at q
    by_cases hdx : b = dx
    · subst hdx
      rw [upd_same] at q
      cases q
      exact exd_ok hd (relO_put (fs := []) r fun g => True.intro)
    · rw [upd_ne hdx] at q
      exact (I.hok b o q).stay (fun c v _ z => kp c v z) (fun c hc => by rw [upd_ne (ne_of_none hc hna), upd_ne (ne_of_none hc hnd)]; exact hc) (fun c xs hc => by rw [upd_ne (ne_of_none hc hna), upd_ne (ne_of_none hc hnd)]; exact hc)

/-- what is wanted of such a class: its def, the name `super` -/
structure ErrAt (P : Program) (K : PySem.W.Frag) (mg : Str → Option Value) (C : Addr) (g : Str) (st : Stmt) : Prop where
  S : IniS g st
  T : ErrC P K C g st
  sup : mg "super" = none
def tErr (C : Addr) (g : Str) (te : TE) : TE := fun σ H Q => te σ H fun y H1 => ∀ a dx, H1 a = none → H1 dx = none → dx ≠ a → Q (.ref a) (upd (upd H1 dx (exd dx [(g, y)])) a (exo a C (some dx)))
theorem run_err {y : V} {u : Value} {us : List Value} {kw : List (Str × Value)} {Q : VK} (Z : ErrAt X.prog X.K X.mg C g st) (hr : Room (k + 1) X.A) (I : Inv X pins σ H s) (r : RelV y u) (ha : (us = [u] ∧ kw = []) ∨ (us = [] ∧ kw = [(g, u)]))
    (h : ∀ a dx, H a = none → H dx = none → dx ≠ a → Q (.ref a) (upd (upd H dx (exd dx [(g, y)])) a (exo a C (some dx)))) : wpAny (model X.prog X.w) X.A (call (.ref C) us kw) (EP X pins σ Q) X.xe s := by
  obtain ⟨nm, q, N, bs, bm, sn, sub, ab, col, dd, k0, k1, k2, k3, k5, hC, hbm⟩ := Z.T.cls
  have hini := Z.T.ini
  obtain ⟨fI, cda, cc, qual, oc, od, kV, doc, pm, an, ct, osl, hf, ty, _⟩ := hini
  obtain ⟨mb, hb1, hb2⟩ := I.mod.blt
  have hus : us.length ≤ sizeLine := by
    rw [sizeLine_eq]
    rcases ha with ⟨rfl, _⟩ | ⟨rfl, _⟩ <;> simp
  obtain ⟨hp, gn, d, t, os⟩ := s
  have hsz : hp.objs.size ≤ hp.objs.size + 1 := Nat.le_succ _
  have kk : ∀ b o, hp.get? b = some o → ((hp.push (PySem.W.kdv_tup us)).push (excO C hp.objs.size)).get? b = some o := fun b o e => Heap.get?_push_of_some _ (Heap.get?_push_of_some _ e)
  have hget : ((hp.push (PySem.W.kdv_tup us)).push (excO C hp.objs.size)).get? (hp.objs.size + 1) = some (excO C hp.objs.size) := by heap_get
  refine wpAny_call (call_kw F.excBase_ValueError (fun Y => refsVE_contains Y bm hbm) (I.kIn _ _ hC) (PySem.W.looks_findIn I.kIn hf) (fun self => PySem.W.bind_fn I.kIn self ty) hus ?_)
  refine ini_run (v := u) (mg := X.mg) (mb := mb) (t0 := hp.objs.size) Z.S Z.T (I.kIn.keeps kk) (I.nolimit.keeps kk) ((I.mod.glob.keeps I.bk).keeps kk) Z.sup ((hb1.keeps I.bk).keeps kk) ((hb2 _ (by decide)).trans PyProof.Rows.Boot.«super») (hr.make C us kw).depth hf hget
    (fun b o z e => ?_) ?_ fun h' t' t1 dx kp nd dne hx hn => ?_
  · rw [e] at z
    exact absurd (Heap.lt_size (I.kIn _ _ z)) (by simp)
  · rcases ha with ⟨rfl, rfl⟩ | ⟨rfl, rfl⟩
    · exact .inl rfl
    · exact .inr rfl
  · have hsz2 : hp.objs.size ≤ dx := Nat.le_trans (by rw [Heap.size_push, Heap.size_push]; omega) nd
    exact ⟨rfl, .ref (hp.objs.size + 1), _, inv_err (tk := t') I (fun b o z => kp b o (fun e => by rw [e] at z; exact absurd (Heap.lt_size z) (by simp)) (kk b o z)) hsz hsz2 dne hx hn r, rfl, h _ _ (I.hok.fresh hsz) (I.hok.fresh hsz2) dne⟩
variable {x : Str} {e : Expr} {te : TE} {p pos kp : Pos}
theorem pe_err (Z : ErrAt X.prog X.K X.mg C g st) (hr : Room (k + 1) X.A) (hg : Gl X x) (hm : X.mg x = some (.ref C)) (he : PE X e te) (hs : starEach [e] X.env = (false, eval e X.env) :: starEach [] X.env := by rfl) (hdb : (x == ("__debug__" : Str)) = false := by decide) :
    PE X (.Call (.Name x p) [e] [] pos) (tErr C g te) := by
  refine ⟨fun pins s σ H Q I h => ?_⟩
  refine wpAny_Call_Name_kw (ld_glob I hg hm ?_ hdb)
  refine PySem.W.callWith_K (h₀ := X.base) I.ok.mod.kin Z.T.kC ?_ hs (by rfl)
  rw [hs]
  show wpAny _ _ (spliced ((false, eval e X.env) :: backTo pos (starEach [] X.env))) _ _ s
  refine Calls.spliced_cons (thn (he.run pins s σ H _ I h) fun u s1 ⟨v, H1, I1, r1, q1⟩ => ?_)
  exact Calls.spliced_nil ⟨I1.kIn, run_err Z hr I1 r1 (.inl ⟨rfl, rfl⟩) q1⟩
theorem pe_errK (Z : ErrAt X.prog X.K X.mg C g st) (hr : Room (k + 1) X.A) (hg : Gl X x) (hm : X.mg x = some (.ref C)) (he : PE X e te) (hdb : (x == ("__debug__" : Str)) = false := by decide) :
    PE X (.Call (.Name x p) [] [⟨some g, e, kp⟩] pos) (tErr C g te) := by
  refine ⟨fun pins s σ H Q I h => ?_⟩
  refine wpAny_Call_Name_kw (ld_glob I hg hm ?_ hdb)
  refine PySem.W.callWith_KW0 (h₀ := X.base) I.ok.mod.kin Z.T.kC rfl ?_ rfl
  refine thn ((pk_cons he pk_nil).run pos pins s σ H (fun zs H1 => match zs with | [y] => ∀ a dx, H1 a = none → H1 dx = none → dx ≠ a → Q (.ref a) (upd (upd H1 dx (exd dx [(g, y)])) a (exo a C (some dx))) | _ => False) I h) fun ws s1 ⟨zs, H1, I1, rz, q1⟩ => ?_
  cases rz with
  | nil => exact q1.elim
  | cons r1 rn => cases rn with
    | nil => exact ⟨I1.kIn, run_err Z hr I1 r1 (.inr ⟨rfl, rfl⟩) q1⟩
    | cons _ _ => exact q1.elim
/-! ### over data -/
variable {W : WX} {t : DTE}
def dErr (C : Addr) (g : Str) (t : DTE) : DTE := fun ρ ω Q E => t ρ ω (fun d ω1 => Q (.exn C [(g, d)]) ω1) E
theorem rep_err {K : PySem.W.Frag} {H : Hp} {O : Addr → Prop} {d : D} {y : V} {a dx : Addr} (r : Rep K H O d y) (na : H a = none) (nd : H dx = none) (oa : ¬ O a) (od : ¬ O dx) (ne : dx ≠ a) :
    Kp O H O (upd (upd H dx (exd dx [(g, y)])) a (exo a C (some dx))) ∧ Rep K (upd (upd H dx (exd dx [(g, y)])) a (exo a C (some dx))) O (.exn C [(g, d)]) (.ref a) := by
  have k1 : Kp O H O (upd H dx (exd dx [(g, y)])) := Kp.laid nd
  have k2 : Kp O (upd H dx (exd dx [(g, y)])) O (upd (upd H dx (exd dx [(g, y)])) a (exo a C (some dx))) := Kp.laid (by rw [upd_ne (Ne.symm ne)]; exact na)
  refine ⟨k1.trans k2, ?_⟩
  unfold Rep
  refine ⟨a, rfl, .inr ⟨dx, [(g, y)], ⟨upd_same, oa⟩, ⟨by rw [upd_ne ne, upd_same], od⟩, ?_⟩⟩
  unfold RepF
  exact ⟨y, [], rfl, r.keep (k1.trans k2), by unfold RepF; rfl⟩
theorem ent_err (σ : St) (H : Hp) (Q : VK) (q : cE X.K W (dErr C g t) σ H Q) : tErr C g (cE X.K W t) σ H Q := by
  obtain ⟨ρ, ω, Qd, Ed, a, q, hv, he⟩ := q
  refine ⟨ρ, ω, _, Ed, a, q, fun d ω1 v H1 k1 r1 p1 q1 e dx na nd ne => ?_, he⟩
  obtain ⟨k2, r2⟩ := rep_err (C := C) (g := g) p1 na nd (r1.not na) (r1.not nd) ne
  exact hv _ ω1 _ _ (k1.trans k2) ((r1.laid nd).laid (by rw [upd_ne (Ne.symm ne)]; exact na)) r2 q1
theorem de_err (G : Good X (k + 1) W) (Z : ErrAt X.prog X.K X.mg C g st) (hm : X.mg x = some (.ref C)) (he : DE X W e t) (hg : Gl X x := by rfl) (hs : starEach [e] X.env = (false, eval e X.env) :: starEach [] X.env := by rfl) (hdb : (x == ("__debug__" : Str)) = false := by decide) :
    DE X W (.Call (.Name x p) [e] [] pos) (dErr C g t) := pe_imp (pe_err Z G.room hg hm he hs hdb) ent_err
theorem de_errK (G : Good X (k + 1) W) (Z : ErrAt X.prog X.K X.mg C g st) (hm : X.mg x = some (.ref C)) (he : DE X W e t) (hg : Gl X x := by rfl) (hdb : (x == ("__debug__" : Str)) = false := by decide) :
    DE X W (.Call (.Name x p) [] [⟨some g, e, kp⟩] pos) (dErr C g t) := pe_imp (pe_errK Z G.room hg hm he hdb) ent_err
end
/-! ### looked at: isinstance, attributes -/
/-- the classes under one base S that stands under ValueError -/
structure ExcK (K : PySem.W.Frag) (S C : Addr) : Prop where
  mro : ∃ cd, PySem.W.clsIn K C = some cd ∧ cd.mro = .ref C :: .ref S :: veTail
  ty : PySem.W.typeIn K (.ref C) = some (.type "type")
  ga : PySem.W.findIn K (.ref C) "__getattribute__" = some (some (.builtin "BaseException.__getattribute__"))
  gg : PySem.W.findIn K (.ref C) "__getattr__" = some none
  hd : PySem.W.hasDictIn K C = true
  ha : PySem.W.findIn K (.ref C) "__class__" = some (some (.builtin "object.__class__"))
structure ExcB (K : PySem.W.Frag) (S : Addr) (cs : List Addr) : Prop where
  all : ∀ C ∈ cs, ExcK K S C
  cS : (PySem.W.clsIn K S).isSome = true
  tS : PySem.W.typeIn K (.ref S) = some (.type "type")
  hn : PySem.W.specialIn K (.builtin "object.__class__") "__get__" = some (some (.builtin "getset_descriptor.__get__"))
  htk : PySem.W.takesIn K (.builtin "object.__class__") = some true
def isX (S C : Addr) (u : Value) : Bool := u == .ref C || (u == .ref S || veTail.contains u)
def clsOk (S : Addr) (cs : List Addr) : Value → Bool
  | .type T => PySem.W.kitMeta T
  | .ref a => cs.contains a || a == S
  | _ => false
def clsD : D → Option Value
  | .ty n => some (.type n)
  | .ref a => some (.ref a)
  | _ => none
def clsDs : List D → Option (List Value)
  | [] => some []
  | d :: ds => match clsD d, clsDs ds with
    | some u, some us => some (u :: us)
    | _, _ => none
section
variable {K : PySem.W.Frag} {S C : Addr} {cs : List Addr}
theorem ExcK.sub (x : ExcK K S C) (u : Value) : PySem.W.mroIn K C u = some (isX S C u) := by
  obtain ⟨cd, h1, h2⟩ := x.mro
  unfold PySem.W.mroIn isX
  rw [h1, Option.bind_some, h2]
  show some (List.contains (Value.ref C :: Value.ref S :: veTail) u) = _
  rw [List.contains_cons, List.contains_cons]
theorem ExcB.kit (B : ExcB K S cs) (hC : C ∈ cs) {u : Value} (ok : clsOk S cs u = true) : PySem.W.kitOne K (.ref C) u = some (isX S C u) := by
  have x := B.all C hC
  unfold PySem.W.kitOne
  by_cases e : (Value.ref C == u) = true
  · have e' := beq_iff_eq.mp e
    subst e'
    rw [if_pos e]
    unfold isX
    rw [beq_self_eq_true, Bool.true_or]
  · rw [if_neg e]
    cases u with
    | type T =>
      show (if PySem.W.kitMeta T = true then PySem.W.mroIn K C (.type T) else none) = _
      rw [if_pos (show PySem.W.kitMeta T = true from ok), x.sub]
    | ref a =>
      have h : ((PySem.W.clsIn K a).isSome && PySem.W.typeIn K (.ref a) == some (.type "type")) = true := by
        have ok' : (cs.contains a || a == S) = true := ok
        rcases Bool.or_eq_true_iff.mp ok' with z | z
        · have y := B.all a (by simpa using z)
          obtain ⟨cd, h1, _⟩ := y.mro
          rw [h1, y.ty]
          simp
        · have z' := beq_iff_eq.mp z
          subst z'
          rw [B.cS, B.tS]
          simp
      show (if ((PySem.W.clsIn K a).isSome && PySem.W.typeIn K (.ref a) == some (.type "type")) = true then PySem.W.mroIn K C (.ref a) else none) = _
      rw [if_pos h, x.sub]
    | _ => cases ok
theorem ExcB.kits (B : ExcB K S cs) (hC : C ∈ cs) : ∀ {us : List Value}, us.all (clsOk S cs) = true → PySem.W.kitAny K (.ref C) us = some (us.any (isX S C))
  | [], _ => rfl
  | u :: us, h => by
    obtain ⟨h1, h2⟩ := Bool.and_eq_true_iff.mp (show (clsOk S cs u && us.all (clsOk S cs)) = true from h)
    refine kitAny_cons (B.kit hC h1) (fun e => ?_) (fun e => ?_)
    · rw [B.kits hC h2]; simp [e]
    · simp [e]
theorem clsV_of {H : Hp} {O : Addr → Prop} {d : D} {v : V} {u : Value} (p : Rep K H O d v) (e : clsD d = some u) : ClsV v u := by
  cases d <;> cases e
  · unfold Rep at p; subst p; exact .ty _
  · unfold Rep at p; subst p; exact .own _
theorem clsVs_of {H : Hp} {O : Addr → Prop} : ∀ {ds : List D} {vs : List V} {us : List Value}, Reps K H O ds vs → clsDs ds = some us → Paired ClsV vs us
  | [], vs, us, p, e => by unfold Reps at p; subst p; cases e; exact .nil
  | d :: ds, vs, us, p, e => by
    unfold Reps at p
    obtain ⟨v, r, rfl, p1, p2⟩ := p
    unfold clsDs at e
    split at e
    · rename_i u us' e1 e2
      cases e
      exact .cons (clsV_of p1 e1) (clsVs_of p2 e2)
    · cases e
end
section
variable {X : Cx} {W : WX} {S C : Addr} {cs : List Addr} {pins : List (Addr × Obj)} {σ : St} {H : Hp} {s : Shared}
/-- the instance, as the library looks at it -/
theorem inst_of {ω : Sto} {fs : List (Str × D)} {v : V} {u : Value} (I : Inv X pins σ H s) (p : Rep X.K H (dm ω) (.exn C fs) v) (r : RelV v u) :
    ∃ a ox od, u = .ref a ∧ PySem.W.InstAt s.heap a ox C od ∧ ∀ g d, fs.lookup g = some d → ∃ od' y w, od = some od' ∧ PySem.W.lookIn g od' = some (some w) ∧ RelV y w ∧ Rep X.K H (dm ω) d y := by
  unfold Rep at p
  obtain ⟨a, rfl, ⟨rfl, e, _⟩ | ⟨dx, ws, ⟨e, _⟩, ⟨ed, _⟩, rf⟩⟩ := p
  · obtain rfl : u = Value.ref a := r
    obtain ⟨t1, ho⟩ := exo_at I.hok e
    exact ⟨a, _, none, rfl, ⟨ho, rfl, rfl, trivial⟩, fun g d z => by cases z⟩
  · obtain rfl : u = Value.ref a := r
    obtain ⟨t1, ho⟩ := exo_at I.hok e
    obtain ⟨mA, hns, rel⟩ := exd_at I.hok ed
    obtain ⟨od, hod, hl⟩ := lookIn_ns hns
    refine ⟨a, _, some od, rfl, ⟨ho, rfl, rfl, hod⟩, fun g d z => ?_⟩
    have key : ∀ {fs : List (Str × D)} {ws : List (Str × V)}, RepF X.K H (dm ω) fs ws → fs.lookup g = some d → ∃ y, ws.lookup g = some y ∧ Rep X.K H (dm ω) d y := by
      intro fs
      induction fs with
      | nil => intro ws _ z; cases z
      | cons q fs ih =>
        intro ws rf z
        obtain ⟨k, e⟩ := q
        unfold RepF at rf
        obtain ⟨y, r, rfl, p1, p2⟩ := rf
        rw [List.lookup_cons] at z
        split at z
        · rename_i hk
          cases z
          exact ⟨y, by rw [List.lookup_cons, hk], p1⟩
        · rename_i hk
          obtain ⟨y', h1, h2⟩ := ih p2 z
          exact ⟨y', by rw [List.lookup_cons, hk]; exact h1, h2⟩
    obtain ⟨y, h1, h2⟩ := key rf z
    obtain ⟨w, hw, rw'⟩ := RelO.some_of (v := y) (o := mA g) (by rw [← h1]; exact rel g)
    exact ⟨od, y, w, rfl, by rw [hl, hw], rw', h2⟩
theorem ExcB.obj (B : ExcB X.K S cs) (hC : C ∈ cs) {a : Addr} {ox : Obj} {od : Option Obj} : PySem.W.KitX X.K (.ref a) (.ref C) (fun h => PySem.W.InstAt h a ox C od) := by
  have x := B.all C hC
  obtain ⟨cd, h1, _⟩ := x.mro
  refine PySem.W.kitx_exc (by rw [h1]; rfl) x.ga x.gg ?_ x.ha B.hn B.htk ?_
  · show PySem.W.mroIn X.K C _ = _
    rw [x.sub]
    have : isX S C (.type "BaseException") = true := by unfold isX; simp
    rw [this]
  · rw [x.sub]
    have : isX S C (.type "object") = true := by unfold isX; simp
    rw [this]
def oIsx (S : Addr) (cs : List Addr) : OC := fun ds ω Q => match ds with
  | [.exn C _, .tup es] => C ∈ cs ∧ (match clsDs es with
    | some us => us.all (clsOk S cs) = true ∧ Q (.bl (us.any (isX S C))) ω
    | none => False)
  | [.exn C _, c] => C ∈ cs ∧ (match clsD c with
    | some u => clsOk S cs u = true ∧ Q (.bl (isX S C u)) ω
    | none => False)
  | _ => False
theorem c_isx (B : ExcB X.K S cs) : DCl X (.builtin "isinstance") (oIsx S cs) := by
  refine ⟨fun xs H Q => ∃ ω ds Qd, RelH X.K H ω ∧ Reps X.K H (dm ω) ds xs ∧ oIsx S cs ds ω Qd ∧ Vk X.K ω H Qd Q, ?_, fun xs H ω ds Q Qd r p q hv => ⟨ω, ds, Qd, r, p, q, hv⟩⟩
  intro pins s σ H xs us Q I r h
  obtain ⟨ω, ds, Qd, rel, p, q, hv⟩ := h
  unfold oIsx at q
  split at q
  · rename_i C fs es
    obtain ⟨v, u, rfl, p1, p2⟩ := reps2 p
    obtain ⟨u1, u2, rfl, r1, r2⟩ := vals2 r
    obtain ⟨hC, q⟩ := q
    split at q
    · rename_i us hus
      obtain ⟨ok, q⟩ := q
      obtain ⟨tp, xs, rfl, hT, rT⟩ := p2.tup_seq
      obtain rfl : u2 = Value.ref tp := r2
      obtain ⟨its, rv, ⟨o, h1, h2, n, h3⟩, _⟩ := I.tuple hT
      obtain rfl := ClsV.all (clsVs_of rT hus) rv
      obtain ⟨a, ox, od, rfl, J, _⟩ := inst_of I p1 r1
      obtain ⟨oc, od', dt, sl⟩ := o
      simp only at h2 h3
      subst h2 h3
      exact PySem.W.kia_tup (B.obj hC) I.kIn J h1 (B.kits hC ok) (fun z => nomatch z) fun tk => ⟨.bl _, H, I.tok tk, rfl, hv.now rel (by unfold Rep; rfl) q⟩
    · exact q.elim
  · rename_i C fs c hne
    obtain ⟨v, u, rfl, p1, p2⟩ := reps2 p
    obtain ⟨u1, u2, rfl, r1, r2⟩ := vals2 r
    obtain ⟨hC, q⟩ := q
    split at q
    · rename_i w hw
      obtain ⟨ok, q⟩ := q
      obtain rfl := (clsV_of p2 hw).eq r2
      obtain ⟨a, ox, od, rfl, J, _⟩ := inst_of I p1 r1
      exact PySem.W.kia_one (B.obj hC) I.kIn J (B.kit hC ok) (fun z => nomatch z) fun tk => ⟨.bl _, H, I.tok tk, rfl, hv.now rel (by unfold Rep; rfl) q⟩
    · exact q.elim
  · exact q.elim
/-- e.g of such an exception -/
def fldP (cs : List Addr) (g : Str) (d : D) (P : D → Prop) : Prop := match d with
  | .exn C fs => C ∈ cs ∧ (match fs.lookup g with
    | some d => P d
    | none => False)
  | _ => False
def dFld (cs : List Addr) (g : Str) (t : DTE) : DTE := fun ρ ω Q E => t ρ ω (fun d ω1 => fldP cs g d fun d => Q d ω1) E
theorem de_fld {e : Expr} {t : DTE} {g : Str} {pos : Pos} (B : ExcB X.K S cs) (hf : ∀ C ∈ cs, PySem.W.findIn X.K (.ref C) g = some none) (he : DE X W e t) (hb : attributeBase e g X.env (eval e X.env) = eval e X.env := by rfl) : DE X W (.Attribute e g pos) (dFld cs g t) := by
  refine ⟨fun pins s σ H Q I h => ?_⟩
  obtain ⟨ρ, ω, Qd, Ed, a, q, hv, hx⟩ := h
  refine attr_of hb (thn (he.run pins s σ H (fun v H1 => ∃ ω1 C fs d, Kp (dm ω) H (dm ω1) H1 ∧ RelH X.K H1 ω1 ∧ Rep X.K H1 (dm ω1) (.exn C fs) v ∧ C ∈ cs ∧ fs.lookup g = some d ∧ Qd d ω1) I ⟨ρ, ω, _, Ed, a, q, fun d ω1 v H1 k1 r1 p1 q1 => ?_, hx⟩) fun u s1 hh => ?_)
  · replace q1 : fldP cs g d (fun d => Qd d ω1) := q1
    unfold fldP at q1
    split at q1
    · rename_i C fs
      obtain ⟨hC, q1⟩ := q1
      split at q1
      · rename_i d hd
        exact ⟨ω1, C, fs, d, k1, r1, p1, hC, hd, q1⟩
      · exact q1.elim
    · exact q1.elim
  · obtain ⟨v, H1, I1, rv, ω1, C, fs, d, k1, r1, p1, hC, hd, q1⟩ := hh
    obtain ⟨x, ox, od, rfl, J, hl⟩ := inst_of I1 p1 rv
    obtain ⟨od', y, w, rfl, e1, e2, e3⟩ := hl g d hd
    have c := B.all C hC
    refine HandSPX.exc_get I1.kIn J c.ga c.gg (by show PySem.W.mroIn X.K C _ = _; rw [c.sub]; have : isX S C (.type "BaseException") = true := by unfold isX; simp
                                                  rw [this]) (PySem.W.findObj_own c.hd (hf C hC) rfl e1) (handed_of e2) ⟨y, H1, I1.tok _, e2, hv.on k1 |>.now r1 e3 q1⟩
/-- C(), a class without own __init__ -/
def dEx0 (C : Addr) : DTE := fun _ ω Q _ => Q (.exn C []) ω
theorem de_err0 {x : Str} {p pos : Pos} (q : PySem.W.excIn X.K C veTail "ValueError.__new__" = true) (kC : PySem.W.keepIn X.K (.ref C) = true) (gC : X.mg x = some (.ref C)) (hg : Gl X x := by rfl) (hdb : (x == ("__debug__" : Str)) = false := by decide) :
    DE X W (.Call (.Name x p) [] [] pos) (dEx0 C) := by
  refine ⟨fun pins s σ H Q I h => ?_⟩
  obtain ⟨ρ, ω, Qd, Ed, a, q', hv, hx⟩ := h
  refine wpAny_Call_Name_kw (ld_glob I hg gC ?_ hdb)
  refine PySem.W.callWith_K0 I.kIn kC ?_
  obtain ⟨bm, N, nm, qn, bs, hdct, sn, sub, ab, col, dd, k0, k1, k2, k3, k5, mN, hC, hN, hni, T⟩ := exc_obj I.kIn q
  refine wpAny_call_exc_subT F.excBase_ValueError T hC hN hni (fun h' a' hm => ?_) (by show 0 ≤ sizeLine; omega)
  have hn : H a' = none := I.hok.gone hm.new
  obtain ⟨t, ht, _, _⟩ := hm.there
  have J : Inv X pins σ (upd H a' (exo a' C none)) ⟨h', s.gens, s.drawn, s.toks, s.os⟩ := I.laidN (t' := s.toks) hm.keeps hm.new hn (exo_ok ht)
  refine ⟨.ref a', _, J, rfl, hv _ ω _ _ (Kp.laid hn) (a.h.laid hn) ?_ q'⟩
  unfold Rep
  exact ⟨a', rfl, .inl ⟨rfl, upd_same, a.h.not hn⟩⟩
end
end DL
end

section
set_option Elab.async false
set_option linter.all false
set_option maxRecDepth 100000
/-! DLR: repr, dicts of plain values too. -/
namespace DL
open PySem PySem.Spec L2
open PyProof.Rows hiding St
def keyPy : Key → PyData
  | .inl i => .int i
  | .inr x => .str x
def flat : D → Bool
  | .non => true
  | .bl _ => true
  | .int _ => true
  | .str _ => true
  | _ => false
def dpy : D → PyData
  | .dic kvs => .dict (kvs.map fun p => (keyPy p.1, py p.2))
  | d => py d
def plain1 : D → Bool
  | .dic kvs => kvs.all fun p => flat p.2
  | d => plainD d
def okShow1 (d : D) : Prop := plain1 d = true ∧ (dpy d).showable = true ∧ (dpy d).depth ≤ 60 ∧ (dpy d).shown.length ≤ sizeLine
def oRepr1 : OC := fun ds ω Q => match ds with
  | [d] => okShow1 (der ω d) ∧ Q (.str (dpy (der ω d)).shown) ω
  | _ => False
section
variable {X : Cx} {W : WX} {k : Nat} {pins : List (Addr × Obj)} {σ : St} {H : Hp} {s : Shared}
theorem flat_reads {h : Heap} {K : PySem.W.Frag} {O : Addr → Prop} {d : D} {v : V} {u : Value} (f : flat d = true) (p : Rep K H O d v) (r : RelV v u) : Reads h u (py d) [] := by
  cases d with
  | non => rw [p.non] at r; obtain rfl : u = Value.none := r; exact .none
  | bl b => rw [p.bl] at r; obtain rfl : u = Value.bool b := r; exact .bool _
  | int b => rw [p.int] at r; obtain ⟨t, rfl⟩ : ∃ t, u = Value.int b t := r; exact .int _ _
  | str b => rw [p.str] at r; obtain ⟨t, rfl⟩ : ∃ t, u = Value.str b t := r; exact .str _ _
  | _ => cases f
theorem pairs_reads {h : Heap} {K : PySem.W.Frag} {O : Addr → Prop} {P : Program} {w : World} : ∀ {kvs : List (Key × D)} {xs : List (Key × V)} {vs : List (Key × Value)} {es : List DictEntry}, (kvs.all fun p => flat p.2) = true → RepK K H O kvs xs → KV xs vs → Pairs (mixKind P w) es vs →
    ReadsAll h (es.map (·.key)) (kvs.map fun p => keyPy p.1) [] ∧ ReadsAll h (es.map (·.val)) (kvs.map fun p => py p.2) []
  | [], xs, vs, es, f, p, r, q => by
    unfold RepK at p
    subst p
    cases r
    cases q
    exact ⟨.nil, .nil⟩
  | (k, d) :: kvs, xs, vs, es, f, p, r, q => by
    unfold RepK at p
    obtain ⟨v, r', rfl, p1, p2⟩ := p
    obtain ⟨f1, f2⟩ := Bool.and_eq_true_iff.mp (show (flat d && kvs.all fun p => flat p.2) = true from f)
    cases r with
    | @cons _ kv _ vs' e t =>
      obtain ⟨k', u⟩ := kv
      obtain ⟨rfl, ru⟩ := e
      cases q with
      | @cons en _ es' _ h1 h2 h3 =>
        obtain ⟨a, b⟩ := pairs_reads (h := h) f2 p2 t h3
        refine ⟨?_, ?_⟩
        · refine ReadsAll.cons (as := []) (bs := []) ?_ a
          have h1' : keyIs k en.key = true := h1
          cases k with
          | inl i => obtain ⟨t, e⟩ := Value.isInt_shape h1'; show Reads h en.key (.int i) []; rw [e]; exact .int _ _
          | inr x => obtain ⟨t, e⟩ := Value.isStrOf_shape h1'; show Reads h en.key (.str x) []; rw [e]; exact .str _ _
        · refine ReadsAll.cons (as := []) (bs := []) ?_ b
          show Reads h en.val (py d) []
          rw [h2]
          exact flat_reads f1 p1 ru
theorem c_repr1 (g : Good X k W) : DCl X (.builtin "repr") oRepr1 := by
  refine ⟨fun xs H Q => ∃ ω ds Qd, RelH X.K H ω ∧ Reps X.K H (dm ω) ds xs ∧ oRepr1 ds ω Qd ∧ Vk X.K ω H Qd Q, ?_, fun xs H ω ds Q Qd r p q hv => ⟨ω, ds, Qd, r, p, q, hv⟩⟩
  intro pins s σ H xs us Q I r h
  obtain ⟨ω, ds, Qd, rel, p, q, hv⟩ := h
  unfold oRepr1 at q
  split at q
  · rename_i d
    obtain ⟨⟨h1, h2, h3, h4⟩, q⟩ := q
    cases z : der ω d with
    | dic kvs =>
      rw [z] at h1 h2 h3 h4 q
      obtain ⟨v, rfl, p1⟩ := reps1 p
      obtain ⟨a, ws, rfl, ha, rk⟩ := dic_of rel p1 z
      obtain ⟨u, rfl, ru⟩ := vals1 r
      obtain rfl : u = Value.ref a := ru
      obtain ⟨_, hns, vs, kv, o, es, ep, ho, hx, hd, _, hp, _⟩ := dk_rd I.hok ha
      obtain ⟨ra, rb⟩ := pairs_reads (h := s.heap) h1 rk kv hp
      have rd : Reads s.heap (.ref a) (.dict (kvs.map fun p => (keyPy p.1, py p.2))) (a :: [] ++ []) := by
        refine .dict ho hx.1 hd ?_ ?_
        · rw [List.map_map]; exact ra
        · rw [List.map_map]; exact rb
      refine repr_of_reads' rd h2 (fun _ => ?_) g.gd (by have := g.u64; have h3' : (PyData.dict (kvs.map fun p => (keyPy p.1, py p.2))).depth ≤ 60 := h3; omega) (fun _ _ e => e) (fun h' u' tk kp => ⟨.str _, H, I.kept (t' := tk) kp, ⟨_, rfl⟩, hv.now rel rS q⟩) h4
      simp only [List.append_nil, List.mem_singleton]
      intro e
      rw [← e] at hns
      simp at hns
    | _ =>
      rw [z] at h1 h2 h3 h4 q
      obtain ⟨r', c1, c2⟩ := (c_repr g).ok
      exact c1 pins s σ H xs us Q I r (c2 xs H ω [d] Q Qd rel p (by show okShow (der ω d) ∧ Qd (D.str (py (der ω d)).shown) ω; rw [z]; exact ⟨⟨h1, h2, h3, h4⟩, q⟩) hv)
  · exact q.elim
end
end DL
end

section
set_option Elab.async false
set_option linter.all false
set_option maxRecDepth 100000
/-! DLL: a def by its body; the law's def at the top. -/
namespace DL
open PySem PySem.Spec L2
open PyProof.Rows hiding St

/-- the slots at the entry -/
def beg (N : List Str) (ds : List D) : Rho := ds.map some ++ List.replicate (N.length - ds.length) none
theorem rel_beg {K : PySem.W.Frag} {H : Hp} {O : Addr → Prop} {N : List Str} {ds : List D} {vs : List V} (r : Reps K H O ds vs) : RelS K H O (beg N ds) (L2.start N vs) := by
  have hl := r.length
  refine ⟨by simp [beg, L2.start, hl], fun i d e => ?_⟩
  have hi : i < ds.length := by
    rcases Nat.lt_or_ge i ds.length with h | h
    · exact h
    · unfold beg at e
      rw [List.getElem?_append_right (by simpa using h), List.getElem?_replicate] at e
      split at e <;> cases e
  unfold beg at e
  rw [List.getElem?_append_left (by simpa using hi), List.getElem?_map] at e
  obtain ⟨d', e1, e2⟩ := Option.map_eq_some_iff.mp e
  cases e2
  obtain ⟨v, h1, h2⟩ := r.get e1
  refine ⟨v, ?_, h2⟩
  unfold L2.start
  rw [List.getElem?_append_left (by rw [List.length_map]; exact hl ▸ hi), List.getElem?_map, h1]
  rfl
/-- the ends of a body -/
def fin (Q : DQ) (E : DX) : DEn where
  nx := fun _ ω => Q .non ω
  rt := Q
  bk := fun _ _ => False
  ct := fun _ _ => False
  ex := fun x _ ω => E x ω

section
variable {P : Program} {w : World} {K : PySem.W.Frag} {mg : Str → Option Value} {base : Heap} {x qual : Str} {st : Stmt} {f : Addr} {fd : FuncData} {N ps : List Str} {k : Nat} {dsp : DSp}
/-- where the body of st runs -/
abbrev bx (P : Program) (w : World) (K : PySem.W.Frag) (mg : Str → Option Value) (base : Heap) (N : List Str) (qual : Str) (st : Stmt) (f : Addr) (cdv : Value) (A : Around) (fr : List Env) (s : Shared) (H : Hp) (E : XK) : Cx :=
  cxOf (L2.CX P w) P w K mg base N qual (defScope st) f cdv A fr s H E
abbrev bw (E : XK) : WX := fun cls d _ H => E cls d H
theorem good_bx {cdv : Value} {A : Around} {fr : List Env} {s : Shared} {H : Hp} {E : XK} (hr : Room (k + 1) A) (hg : A.guards = some []) (nd : N.Nodup) : Good (bx P w K mg base N qual st f cdv A fr s H E) k (bw E) where
  calm := rfl
  room := hr.deeper _
  gd := hg
  tk := takes_of rfl rfl rfl rfl
  po := passes_of rfl
  nd := nd
theorem def_ok (D : Fun K x qual st f fd) (S : FnScope N ps (defScope st)) (len : ∀ ds ω Q E, dsp ds ω Q E → ds.length = ps.length)
    (body : ∀ (cdv : Value) (A : Around) (fr : List Env) (s : Shared) (H : Hp) (E : XK), Good (bx P w K mg base N qual st f cdv A fr s H E) k (bw E) →
      ∃ t, DSs (bx P w K mg base N qual st f cdv A fr s H E) (bw E) (defBody st) t ∧ ∀ ds ω Q Ed, dsp ds ω Q Ed → t (fin Q Ed) (beg N ds) ω) :
    FnG P w K mg base (k + 1) f fd ps dsp := by
  obtain ⟨oc, od, kV, doc, pm, an, cdv, ct, osl, rfl, lk, hcd⟩ := D.ex
  refine ⟨len, fun A fr s H args us vs Q E hr hg e0 hb r hsp => ?_⟩
  obtain ⟨ds, ω, Qd, Ed, rd, rh, hd, hv, hx⟩ := hsp
  have hl : vs.length = ps.length := rd.length.trans (len _ _ _ _ hd)
  have kp : ∀ b o, base.get? b = some o → s.heap.get? b = some o := fun b o e => (e0.bs b o e).1
  have kx : K.In s.heap := e0.mod.kin.keeps kp
  have hkind : ∀ y ∈ ps.zip us, (defScope st).names.lookup y.1 = some .local ∨ ((defScope st).names.lookup y.1 = some .cell ∧ ((cellsFrom (s.heap.objs.size + 1) (defScope st).names []).lookup y.1).isSome = true) := by
    rintro ⟨n, v⟩ hy
    exact (S.par n (List.of_mem_zip hy).1).imp id fun q => ⟨q, PySem.W.cellsFrom_some _ _ _ (.inl q)⟩
  have good := good_bx (P := P) (w := w) (K := K) (mg := mg) (base := base) (qual := qual) (st := st) (f := f) (cdv := cdv) (fr := fr) (s := s) (H := H) (E := E) hr hg S.nd
  obtain ⟨t, ht, hq⟩ := body cdv A fr s H E good
  refine codeAny_call_function hr.depth (kx _ _ lk) rfl S.co S.gen rfl (PySem.W.codeRec_of kx hcd) (hb _ _ _ _ ?_)
  refine wpAny_newFunctionEnv_cells S.kind hkind fun env he s1 ic => ?_
  subst he
  refine ⟨(e0.mod.nolimit.keeps kp).keeps ic.toInCall.keep, codeAny_func ?_⟩
  have I : Inv (bx P w K mg base N qual st f cdv A fr s H E) [] (L2.start N vs) H s1 := inv_start S hr.hd e0 hl r ic
  have rt : ∀ {σ' : St} {H' : Hp} {s' : Shared} {v : V} {u : Value}, Inv (bx P w K mg base N qual st f cdv A fr s H E) [] σ' H' s' → RelV v u → Q v H' → CE fr P w H s Q u s' := fun {σ' H' s' v u} J rv z => ⟨v, H', J.os, J.bare, J.base, J.hok, rv, z⟩
  have go := ht.run [] s1 (L2.start N vs) H { nx := fun _ H' => Q .non H', rt := Q } I ⟨beg N ds, ω, fin Qd Ed, ⟨rel_beg rd, rh⟩, hq _ _ _ _ hd,
    ⟨fun ρ' ω' σ' H' k' a' z => hv .non ω' .non H' k' a'.h (by unfold Rep; rfl) z, hv, fun _ _ _ _ _ _ z => z.elim, fun _ _ _ _ _ _ z => z.elim, fun x ρ' ω' cls dd σ' H' k' a' rx z => hx x ω' cls dd H' k' a'.h rx z⟩⟩
  refine wpAny_mono go (fun fl s' hs => ?_) fun e s' hs => hs
  cases fl with
  | ret u => obtain ⟨v, σ', H', J, rv, z⟩ := hs; exact rt J rv z
  | next => obtain ⟨σ', H', J, z⟩ := hs; exact rt (v := V.non) (u := Value.none) J rfl z
  | brk => obtain ⟨_, _, _, z⟩ := hs; exact z.elim
  | cont => obtain ⟨_, _, _, z⟩ := hs; exact z.elim
/-- a def of the module, by its body -/
theorem cal_of (hm : mg x = some (.ref f)) (D : Fun K x qual st f fd) (hb : Binds K fd ps []) (S : FnScope N ps (defScope st)) (len : ∀ ds ω Q E, dsp ds ω Q E → ds.length = ps.length)
    (body : ∀ (cdv : Value) (A : Around) (fr : List Env) (s : Shared) (H : Hp) (E : XK), Good (bx P w K mg base N qual st f cdv A fr s H E) k (bw E) →
      ∃ t, DSs (bx P w K mg base N qual st f cdv A fr s H E) (bw E) (defBody st) t ∧ ∀ ds ω Q Ed, dsp ds ω Q Ed → t (fin Q Ed) (beg N ds) ω) : Cal P w K mg base (k + 1) x ps dsp :=
  ⟨f, fd, hm, D.kp, hb, def_ok D S len body⟩
end
/-! ### the law's def -/
section
variable {P : Program} {w : World} {K : PySem.W.Frag} {mg mb : Str → Option Value} {k : Nat} {fa a : Addr} {fd : FuncData} {x : Str} {dsp : DSp} {s₁ : Shared} {vs : List Value} {ns : List Int}
/-- the script's object is told to the data layer, or stands in the written part -/
theorem rep_scr {H : Hp} (h : SqL K H a (ns.map V.int)) (n : ∀ b, H b = none ∨ ∃ o xs, H b = some (.frz o (.lst xs))) : Reps K H (dm fun _ => none) [.scr (ns.map D.int)] [.ref a] := by
  have tell : ∀ ns : List Int, Reps K H (dm fun _ => none) (ns.map D.int) (ns.map V.int) := by
    intro ns
    induction ns with
    | nil => exact Reps.nil
    | cons i r ih => exact Reps.cons (by unfold Rep; rfl) ih
  refine Reps.cons ?_ Reps.nil
  unfold Rep
  refine ⟨a, _, rfl, ?_, tell ns⟩
  rcases h with h | h
  · exact .inl ⟨h, fun z => z rfl⟩
  · exact .inr h
theorem relH_none {H : Hp} : RelH K H (fun _ => none) := fun b o e => by cases e
/-- one entry of the law's def, from a heap of which the script alone is tracked (or nothing) -/
theorem law_at {H : Hp} (KX : K.In s₁.heap) (hns : s₁.heap.Ns mainGlobals mg) (hb : s₁.heap.Ns builtinsNs mb) (hbb : ∀ x : Str, x ≠ "__name__" → mb x = bootBuiltins x) (hlim : s₁.heap.NoLimit) (hg : s₁.gens = #[])
    (ha : s₁.heap.get? a = some { cls := .type "list", data := .seq vs.toArray }) (hr : Room k callerA)
    (F : ∀ base : Heap, K.In base → base.Ns mainGlobals mg → FnG P w K mg base k fa fd [x] dsp) (hbind : ∀ (s : Shared) (u : Value), BindsTo s fd ⟨[u], []⟩ [(x, u)])
    (hsp : dsp [.scr (ns.map .int)] (fun _ => none) (fun d _ => d = .bl true) fun _ _ => False)
    (only : ∀ b, H b = none ∨ ∃ o xs, H b = some (.frz o (.lst xs))) (sq : SqL K H a (ns.map V.int)) (ok : HOk P w H s₁.heap) (one : ∀ b, H b ≠ none → b = a) (noK : H a ≠ none → K.lookup a = none) :
    codeAny (model P w) callerA (.call (.ref fa) ⟨[.ref a], []⟩) (fun r s' => r = .ok (.ret (.bool true)) ∧ OldK s₁.heap s'.heap ∧ s'.os = s₁.os ∧ AllBare s'.gens) s₁ := by
  have see : ∀ {b : Addr} {o : Obj}, s₁.heap.get? b = some o → b ≠ a → (hidT s₁.heap H).get? b = some o := fun {b o} e n => hidT_get e (by
    cases z : H b with
    | none => rfl
    | some u => exact absurd (one b (by rw [z]; simp)) n)
  have nsA : ∀ {b : Addr} {m : Str → Option Value}, s₁.heap.Ns b m → (hidT s₁.heap H).Ns b m := fun {b m} ⟨o, es, ep, e, d, r⟩ => ⟨o, es, ep, see e (fun z => by
    rw [z, ha] at e
    cases e
    have d' : Data.seq vs.toArray _ = Data.dict es ep := d
    cases d'), d, r⟩
  have kin : K.In (hidT s₁.heap H) := fun b o e => by
    by_cases z : b = a
    · subst z
      refine hidT_get (KX b o e) ?_
      cases q : H b with
      | none => rfl
      | some u => rw [noK (by rw [q]; simp)] at e; cases e
    · exact see (KX b o e) z
  have e0 : Env0 P w K mg (hidT s₁.heap H) callerA [] s₁ H := {
    frames := rfl
    mod := ⟨kin, nsA hns, ⟨mb, nsA hb, hbb⟩, let ⟨mc, h1, h2⟩ := hlim; ⟨mc, nsA h1, h2⟩⟩
    bs := fun b o e => of_hidT e
    bsz := Nat.le_of_eq (hidT_size _ _)
    funs := trivial
    frf := fun b z => absurd (show b ∈ ([] : List Addr) from z) (by simp)
    hok := ok
    bare := .of_eq hg }
  have sp : cSp K dsp [.ref a] H (fun v _ => v = .bl true) fun _ _ _ => False :=
    ⟨_, _, _, _, rep_scr sq only, relH_none, hsp, fun d ω' v H' _ _ p z => by subst z; unfold Rep at p; exact p, fun _ _ _ _ _ _ _ _ z => z⟩
  refine codeAny_mono ((F _ kin (nsA hns)).run callerA [] s₁ H ⟨[.ref a], []⟩ [.ref a] [.ref a] _ _ hr rfl e0 (hbind s₁ (.ref a)) (.cons rfl .nil) sp) fun r s' h => ?_
  cases r with
  | error e => obtain ⟨_, _, _, _, _, _, _, _, _, _, _, _, z⟩ := h; exact z.elim
  | ok fl => cases fl with
    | next => exact h.elim
    | brk => exact h.elim
    | cont => exact h.elim
    | ret u =>
      obtain ⟨v, H', os, bare, un, ok', rv, q⟩ := h
      obtain rfl : v = .bl true := q
      obtain rfl : u = Value.bool true := rv
      refine ⟨rfl, OldK.of_keep fun b o e => ?_, os, bare⟩
      rcases only b with z | ⟨ob, xs, z⟩
      · exact un.keep b o e z (fun y => absurd (show b ∈ ([] : List Addr) from y) (by simp)) (by simp)
      · obtain ⟨e1, _⟩ := ok b _ z
        obtain ⟨e2, _⟩ := ok' b _ (un.frzs b ob _ z)
        rw [e] at e1
        cases e1
        exact e2
theorem law_callG (KX : K.In s₁.heap) (hns : s₁.heap.Ns mainGlobals mg) (hb : s₁.heap.Ns builtinsNs mb) (hbb : ∀ x : Str, x ≠ "__name__" → mb x = bootBuiltins x) (hlim : s₁.heap.NoLimit) (hg : s₁.gens = #[])
    (ha : s₁.heap.get? a = some { cls := .type "list", data := .seq vs.toArray }) (hi : IntsAre vs ns) (hl : ns.length ≤ sizeLine) (hr : Room k callerA)
    (F : ∀ base : Heap, K.In base → base.Ns mainGlobals mg → FnG P w K mg base k fa fd [x] dsp) (hbind : ∀ (s : Shared) (u : Value), BindsTo s fd ⟨[u], []⟩ [(x, u)])
    (hsp : dsp [.scr (ns.map .int)] (fun _ => none) (fun d _ => d = .bl true) fun _ _ => False) :
    codeAny (model P w) callerA (.call (.ref fa) ⟨[.ref a], []⟩) (fun r s' => r = .ok (.ret (.bool true)) ∧ OldK s₁.heap s'.heap ∧ s'.os = s₁.os ∧ AllBare s'.gens) s₁ := by
  have rv := vals_ints hi
  cases hk : K.lookup a with
  | some o =>
    have e := KX a o hk
    rw [ha] at e
    cases e
    exact law_at (H := fun _ => none) KX hns hb hbb hlim hg ha hr F hbind hsp (fun _ => .inl rfl) (.inr ⟨_, vs.toArray, _, hk, rfl, rfl, rfl, by rw [List.size_toArray, hi.length]; exact hl, by simpa using rv⟩) (fun b u z => by cases z) (fun b z => absurd rfl z) fun z => absurd rfl z
  | none =>
    have none_of : ∀ {b : Addr}, b ≠ a → (if b = a then some (HO.frz { cls := .type "list", data := .seq vs.toArray } (.lst (ns.map V.int))) else none) = none := fun n => if_neg n
    refine law_at (H := fun b => if b = a then some (.frz { cls := .type "list", data := .seq vs.toArray } (.lst (ns.map V.int))) else none) KX hns hb hbb hlim hg ha hr F hbind hsp (fun b => ?_) (.inl (.inr ⟨_, if_pos rfl⟩)) (fun b u z => ?_) (fun b z => ?_) fun _ => hk
    · by_cases n : b = a
      · exact .inr ⟨_, _, if_pos n⟩
      · exact .inl (none_of n)
    · by_cases n : b = a
      · subst n
        have z' := (if_pos rfl).symm.trans z
        cases z'
        exact ⟨ha, by rw [List.length_map]; exact hl, vs, _, rv, ha⟩
      · have z' := (none_of n).symm.trans z
        cases z'
    · by_cases n : b = a
      · exact n
      · exact absurd (none_of n) z
end
/-- the walk, from the law def's promise over data -/
theorem walk_ofG {l : PySem.W.OpenLaw} {n k : Nat} {q : Program} {loose : List Str} {XP : (Str → Option Value) → Heap → Prop} {YP : World → Heap → Prop} {d : DefRec} {K : Params → PySem.W.Frag} {dsp : DSp} {x : Str}
    (hn : l.most = some n) (hn2 : n ≤ sizeLine) (hdf : d.params.defaults = []) (hr : Room k callerA) (hY : ∀ (w : World) (h : Heap), YP w h → (K w.params).In h)
    (F : ∀ (w : World) (mg : Str → Option Value) (fa : Addr) (h : Heap), (K w.params).In h → h.Ns mainGlobals mg → mg d.name = some (.ref fa) →
      ∃ fd : FuncData, (∀ (s : Shared) (u : Value), BindsTo s fd ⟨[u], []⟩ [(x, u)]) ∧ ∀ base : Heap, (K w.params).In base → base.Ns mainGlobals mg → FnG l.prog w (K w.params) mg base k fa fd [x] dsp)
    (hsp : ∀ ns : List Int, ns.length ≤ n → dsp [.scr (ns.map .int)] (fun _ => none) (fun d _ => d = .bl true) fun _ _ => False) :
    PySem.W.WalkO q loose XP YP l.row.toRowW d [] (fun f vs => PySem.call f vs) := by
  refine Att.attach_call hn hdf fun w s₀ s₁ mg mb fa o pm cd doc a vs ns G Y ho hd hcd hmg hobj hints hlen hg => ?_
  obtain ⟨fd, hb, hF⟩ := F w mg fa _ (hY w _ Y) G.T.g hmg
  exact law_callG (hY w _ Y) G.T.g G.T.b G.T.builtins G.T.nolimit hg hobj hints (Nat.le_trans hlen hn2) hr hF hb (hsp ns hlen)
end DL
end

section
set_option Elab.async false
set_option linter.all false
set_option maxRecDepth 100000
/-! DLG: short words for the printed walks; dict displays. -/
namespace DL
open PySem PySem.Spec L2
open PyProof.Rows hiding St
section
variable {X : Cx} {W : WX} {k : Nat} {pos : Pos} {x : Str} {e a b tg iter elt : Expr} {es : List Expr} {te ta tb : DTE}
theorem Good.blk (G : Good X k W) {scope : Scope} {s : Shared} {H : Hp} {C : Addr} {cl : List (Str × Addr)} {fp : List Addr} : Good (blkX X scope s H C cl fp) k W0 :=
  ⟨G.calm, G.room, G.gd, takes0, PassesOwn.never, G.nd⟩
theorem dv (i : Nat) (hN : X.N[i]? = some x := by rfl) (hv : Vis X.env.scope x := by first | exact Or.inl rfl | exact Or.inr (Or.inl rfl) | exact Or.inr (Or.inr rfl)) (hd : (x == ("__debug__" : Str)) = false := by decide)
    (hcd : (x == ("__classdict__" : Str)) = false := by decide) : DE X W (.Name x pos) (dVar i) := de_var (pe_var hN hv hd hcd)
theorem dn (G : Good X k W) (i : Nat) (hN : X.N[i]? = some x := by rfl) (hx : Loc X.env.scope x := by first | exact Or.inl rfl | exact Or.inr rfl) (hf : X.fn x = true ∨ X.env.scope.names.lookup x = some .local := by first | exact .inl rfl | exact .inr rfl) :
    DG X (.Name x pos) (gN i) := dg_name (pg_name G.nd hN hx hf)
/-- a class, a function of the module as a value -/
theorem dgl {c : Addr} (hm : X.mg x = some (.ref c)) (hg : Gl X x := by rfl) (hd : (x == ("__debug__" : Str)) = false := by decide) : DE X W (.Name x pos) (dK (.ref c)) :=
  de_k (v := .ref c) (pe_glob hg hm rfl hd) fun _ _ => by unfold Rep; rfl
/-! ### dict displays -/
def putD (kvs : List (Key × D)) (k : Key) (v : D) : List (Key × D) :=
  if (kvs.any fun kv => decide (kv.1 = k)) = true then kvs.map (fun kv => if kv.1 = k then (kv.1, v) else kv) else kvs ++ [(k, v)]
theorem RepK.append {K : PySem.W.Frag} {H : Hp} {O : Addr → Prop} : ∀ {ds es : List (Key × D)} {vs us : List (Key × V)}, RepK K H O ds vs → RepK K H O es us → RepK K H O (ds ++ es) (vs ++ us)
  | [], _, _, _, h, q => by unfold RepK at h; subst h; exact q
  | (k, d) :: ds, _, _, _, h, q => by
    unfold RepK at h
    obtain ⟨v, r, rfl, p1, p2⟩ := h
    show RepK K H O ((k, d) :: (ds ++ _)) ((k, v) :: (r ++ _))
    unfold RepK
    exact ⟨v, _, rfl, p1, RepK.append p2 q⟩
theorem RepK.one {K : PySem.W.Frag} {H : Hp} {O : Addr → Prop} {k : Key} {d : D} {v : V} (h : Rep K H O d v) : RepK K H O [(k, d)] [(k, v)] := by
  unfold RepK
  exact ⟨v, [], rfl, h, by unfold RepK; rfl⟩
theorem RepK.any {K : PySem.W.Frag} {H : Hp} {O : Addr → Prop} {k : Key} : ∀ {ds : List (Key × D)} {vs : List (Key × V)}, RepK K H O ds vs → (vs.any fun kv => decide (kv.1 = k)) = (ds.any fun kv => decide (kv.1 = k))
  | [], _, h => by unfold RepK at h; subst h; rfl
  | (j, d) :: ds, _, h => by
    unfold RepK at h
    obtain ⟨v, r, rfl, p1, p2⟩ := h
    simp only [List.any_cons]
    rw [RepK.any p2]
theorem RepK.map {K : PySem.W.Frag} {H : Hp} {O : Addr → Prop} {k : Key} {d : D} {v : V} (hd : Rep K H O d v) : ∀ {ds : List (Key × D)} {vs : List (Key × V)}, RepK K H O ds vs →
    RepK K H O (ds.map fun kv => if kv.1 = k then (kv.1, d) else kv) (vs.map fun kv => if kv.1 = k then (kv.1, v) else kv)
  | [], _, h => by unfold RepK at h; subst h; unfold RepK; rfl
  | (j, e) :: ds, _, h => by
    unfold RepK at h
    obtain ⟨u, r, rfl, p1, p2⟩ := h
    simp only [List.map_cons]
    by_cases hk : j = k
    · simp only [if_pos hk]
      unfold RepK
      exact ⟨v, _, rfl, hd, RepK.map hd p2⟩
    · simp only [if_neg hk]
      unfold RepK
      exact ⟨u, _, rfl, p1, RepK.map hd p2⟩
theorem RepK.put {K : PySem.W.Frag} {H : Hp} {O : Addr → Prop} {k : Key} {d : D} {v : V} {ds : List (Key × D)} {vs : List (Key × V)} (h : RepK K H O ds vs) (hd : Rep K H O d v) : RepK K H O (putD ds k d) (putK vs k v) := by
  unfold putD putK
  rw [h.any]
  split
  · exact h.map hd
  · exact h.append (RepK.one hd)
def mergeD (kvs more : List (Key × D)) : List (Key × D) := more.foldl (fun acc kv => putD acc kv.1 kv.2) kvs
theorem RepK.merge {K : PySem.W.Frag} {H : Hp} {O : Addr → Prop} : ∀ {more : List (Key × D)} {ms : List (Key × V)} {ds : List (Key × D)} {vs : List (Key × V)}, RepK K H O more ms → RepK K H O ds vs → RepK K H O (mergeD ds more) (mergeK vs ms)
  | [], _, _, _, h, q => by unfold RepK at h; subst h; exact q
  | (k, d) :: more, _, _, _, h, q => by
    unfold RepK at h
    obtain ⟨v, r, rfl, p1, p2⟩ := h
    show RepK K H O (mergeD (putD _ k d) more) (mergeK (putK _ k v) r)
    exact RepK.merge p2 (q.put p1)
def dPrs : List (DTE × DTE) → Rho → Sto → (List (D × D) → Sto → Prop) → DX → Prop
  | [], _, ω, Q, _ => Q [] ω
  | (tk, tv) :: r, ρ, ω, Q, E => tk ρ ω (fun d ω1 => tv ρ ω1 (fun e ω2 => dPrs r ρ ω2 (fun ps ω3 => Q ((d, e) :: ps) ω3) E) E) E
def keysD : List (D × D) → Option (List (Key × D))
  | [] => some []
  | (d, e) :: r => match keyD d, keysD r with
    | some k, some l => some ((k, e) :: l)
    | _, _ => none
/-- the dict made of the pairs: closed, or left open -/
def dspEnd (m : Bool) (p : Addr) (Q : DQ) (ps : List (D × D)) (ω : Sto) : Prop := ω p = some (.dic []) ∧ (match keysD ps with
  | some kvs => kvs.length ≤ 15 ∧ (if m = true then Q (.ref p) (put ω p (.dic (mergeD [] kvs))) else Q (.dic (mergeD [] kvs)) (cut (put ω p (.dic (mergeD [] kvs))) p))
  | none => False)
def dDsp (m : Bool) (trs : List (DTE × DTE)) : DTE := fun ρ ω Q E => ∀ p, ω p = none → dPrs trs ρ (put ω p (.dic [])) (dspEnd m p Q) E
/-- the pairs of a display -/
structure DPs (X : Cx) (W : WX) (pos : Pos) (keys : List (Option Expr)) (values : List Expr) (trs : List (DTE × DTE)) : Prop where
  pps : PPs X pos keys values (trs.map fun p => (cE X.K W p.1, cE X.K W p.2))
theorem dps_nil : DPs X W pos [] [] [] := ⟨pps_nil⟩
theorem dps_cons {tk tv : DTE} {ks : List (Option Expr)} {vs : List Expr} {trs : List (DTE × DTE)} (hk : DE X W a tk) (hv : DE X W b tv) (h : DPs X W pos ks vs trs) : DPs X W pos (some a :: ks) (b :: vs) ((tk, tv) :: trs) := ⟨pps_cons hk hv h.pps⟩
inductive RepP (K : PySem.W.Frag) (H : Hp) (O : Addr → Prop) : List (D × D) → List (V × V) → Prop
  | nil : RepP K H O [] []
  | cons {d e : D} {x y : V} {ps : List (D × D)} {vs : List (V × V)} : Rep K H O d x → Rep K H O e y → RepP K H O ps vs → RepP K H O ((d, e) :: ps) ((x, y) :: vs)
theorem prs_ent {K : PySem.W.Frag} {σ : St} : ∀ {trs : List (DTE × DTE)} {ρ : Rho} {ω : Sto} {H : Hp} {Qd : List (D × D) → Sto → Prop} {Ed : DX} {Q : List (V × V) → Hp → Prop}, At K σ H ρ ω → dPrs trs ρ ω Qd Ed → Ek K W σ ω H Ed →
    (∀ ps ω' vs H', Kp (dm ω) H (dm ω') H' → RelH K H' ω' → RepP K H' (dm ω') ps vs → Qd ps ω' → Q vs H') → tPairs (trs.map fun p => (cE K W p.1, cE K W p.2)) σ H Q
  | [], ρ, ω, H, Qd, Ed, Q, a, q, he, hv => hv [] ω [] H Kp.refl a.h .nil q
  | (tk, tv) :: r, ρ, ω, H, Qd, Ed, Q, a, q, he, hv => ⟨ρ, ω, _, Ed, a, q, fun d ω1 x H1 k1 r1 p1 q1 => ⟨ρ, ω1, _, Ed, a.on k1 r1, q1, fun e ω2 y H2 k2 r2 p2 q2 =>
      prs_ent ((a.on k1 r1).on k2 r2) q2 ((he.on k1).on k2) fun ps ω3 vs H3 k3 r3 p3 q3 => hv _ ω3 _ H3 ((k1.trans k2).trans k3) r3 (.cons ((p1.keep k2).keep k3) (p2.keep k3) p3) q3, he.on k1⟩, he⟩
theorem keys_rep {K : PySem.W.Frag} {H : Hp} {O : Addr → Prop} {ps : List (D × D)} {vs : List (V × V)} (h : RepP K H O ps vs) : ∀ {kvs : List (Key × D)}, keysD ps = some kvs →
    ∃ ws : List (Key × V), vs = ws.map (fun kv => (kV kv.1, kv.2)) ∧ RepK K H O kvs ws := by
  induction h with
  | nil => intro kvs e; cases e; exact ⟨[], rfl, by unfold RepK; rfl⟩
  | @cons d e x y ps vs p1 p2 _ ih =>
    intro kvs q
    unfold keysD at q
    split at q
    · rename_i k l e1 e2
      cases q
      obtain ⟨ws, rfl, r⟩ := ih e2
      refine ⟨(k, y) :: ws, ?_, ?_⟩
      · rw [List.map_cons, rep_key p1 e1]
      · unfold RepK
        exact ⟨y, ws, rfl, p2, r⟩
    · cases q
theorem de_dsp {keys : List (Option Expr)} {values : List Expr} {trs : List (DTE × DTE)} (m : Bool) (h : DPs X W pos keys values trs) (hall : keys.all (·.isSome) = true := by rfl) (hl : keys.length = values.length := by rfl) (h0 : keys ≠ [] := by exact List.cons_ne_nil _ _)
    (h15 : keys.length ≤ 15 := by decide) : DE X W (.Dict keys values pos) (dDsp m trs) := pe_imp (pe_disp h.pps hall hl h0 h15) fun σ H Q ⟨ρ, ω, Qd, Ed, a, q, hv, he⟩ => fun p n => by
  obtain ⟨k1, r1⟩ := lay_dic (ds := []) (vs := []) a.h n (by unfold RepK; rfl)
  refine prs_ent (a.on k1 r1) (q p (a.h.free n)) (he.on k1) fun ps ω2 vs H2 k2 r2 p2 q2 => ?_
  obtain ⟨e, q2⟩ := q2
  obtain ⟨xs, h1, h2⟩ := r2 p _ e
  unfold RepK at h2
  subst h2
  split at q2
  · rename_i kvs ek
    obtain ⟨ws, rfl, rk⟩ := keys_rep p2 ek
    obtain ⟨lk, q2⟩ := q2
    have rm := rk.merge (ds := []) (vs := []) (by unfold RepK; rfl)
    obtain ⟨k3, r3⟩ := put_dic r2 e rm
    refine ⟨h1, ws, rfl, by rw [rk.length]; exact lk, ?_⟩
    cases m with
    | true => exact hv _ _ _ _ ((k1.trans k2).trans k3) r3 rep_ref q2
    | false => exact hv _ _ _ _ (((k1.trans k2).trans k3).trans Kp.closed) r3.closed (close_dic r3 put_same) q2
  · exact q2.elim
/-- {}, closed -/
def dE0 : DTE := fun _ ω Q _ => Q (.dic []) ω
theorem de_e0 : DE X W (.Dict [] [] pos) dE0 := pe_imp pe_dnewK fun σ H Q ⟨ρ, ω, Qd, Ed, a, q, hv, he⟩ => fun p n => by
  refine hv _ ω _ _ (Kp.laid n) (a.h.laid n) ?_ q
  unfold Rep
  exact ⟨p, [], rfl, ⟨.inl upd_same, a.h.not n⟩, by unfold RepK; rfl⟩
/-! ### comprehension targets -/
theorem own_name {own : List (Str × Nat)} (i : Nat) (G : Good X k W) (scope : Scope) (hN : X.N[i]? = some x := by rfl)
    (hx : ∀ s H C cl fp, Loc (blkX X scope s H C cl fp).env.scope x := by first | exact fun _ _ _ _ _ => Or.inl rfl | exact fun _ _ _ _ _ => Or.inr rfl)
    (hf : ∀ s H C cl fp, (blkX X scope s H C cl fp).fn x = true ∨ (blkX X scope s H C cl fp).env.scope.names.lookup x = some .local := by first | exact fun _ _ _ _ _ => Or.inl rfl | exact fun _ _ _ _ _ => Or.inr rfl)
    (hi : i ∈ own.map (·.2) := by decide) : ∃ gV : TG, (∀ s H C cl fp, PG (blkX X scope s H C cl fp) (.Name x pos) gV) ∧ ∀ v σ H ρ ω d Qd (Q : St → Hp → Prop), At X.K σ H ρ ω → Rep X.K H (dm ω) d v → gN i d ρ ω Qd →
      (∀ ρ' ω' σ' H', L2.wipe σ' (own.map (·.2)) = L2.wipe σ (own.map (·.2)) → Kp (dm ω) H (dm ω') H' → At X.K σ' H' ρ' ω' → Qd ρ' ω' → Q σ' H') → gV v σ H Q :=
  ⟨gName i, fun s H C cl fp => pg_name G.nd hN (hx s H C cl fp) (hf s H C cl fp), fun v σ H ρ ω d Qd Q a r q hk => hk _ _ _ _ (wipe_set_in hi) Kp.refl ⟨a.s.set i r, a.h⟩ q⟩
/-! ### more words for the printed walks -/
theorem dset {pos' : Pos} (G : Good X k W) (i : Nat) (he : DE X W e te) (hi : X.N[i]? = some x := by rfl) (hx : Loc X.env.scope x := by first | exact Or.inl rfl | exact Or.inr rfl) (hs : swapsWith e (some (.Name x pos')) pos.line X.env = pure false := by rfl)
    (hf : X.fn x = true ∨ X.env.scope.names.lookup x = some .local := by first | exact .inl rfl | exact .inr rfl) : DS X W (.Assign [.Name x pos'] e pos) (dAsg te (gN i)) := ds_set G hi hx he hs hf
def blkB (N : List Str) (sc scope : Scope) (own : List (Str × Nat)) : Bool :=
  decide (scope.kind = .function) && (scope.names.all (fun y => decide (scope.names.lookup y.1 = some y.2)) && (own.all (fun p => decide (N[p.2]? = some p.1)) && (scope.names.all (fun y => decide (y.2 = .free → sc.names.lookup y.1 = some .cell ∨ sc.names.lookup y.1 = some .free)) &&
    scope.names.all (fun y => decide (y.2 = .local ∨ y.2 = .cell → y.1 ∈ own.map (·.1) ∨ y.1 ∉ N)))))
theorem blkB_ok {N : List Str} {sc scope : Scope} {own : List (Str × Nat)} (h : blkB N sc scope own = true) : BlkOk N sc scope own := by
  unfold blkB at h
  simp only [Bool.and_eq_true, List.all_eq_true, decide_eq_true_eq] at h
  obtain ⟨h1, h2, h3, h4, h5⟩ := h
  exact ⟨h1, h2, h3, h4, h5⟩
/-- name = [..] on one line -/
theorem ds_setLc {i : Nat} {py spos : Pos} {ifs : List Expr} {scope : Scope} {own : List (Str × Nat)} {ti : DTI} {g : DTG} {tt : DTT} (m : Bool) (G : Good X k W) (hi : DI X W tg iter ti) (ok : BlkOk X.N X.env.scope scope own)
    (hg : ∃ gV : TG, (∀ s H C cl fp, PG (blkX X scope s H C cl fp) tg gV) ∧ ∀ v σ H ρ ω d Qd (Q : St → Hp → Prop), At X.K σ H ρ ω → Rep X.K H (dm ω) d v → g d ρ ω Qd →
      (∀ ρ' ω' σ' H', L2.wipe σ' (own.map (·.2)) = L2.wipe σ (own.map (·.2)) → Kp (dm ω) H (dm ω') H' → At X.K σ' H' ρ' ω' → Qd ρ' ω' → Q σ' H') → gV v σ H Q)
    (ht : ∀ s H C cl fp, DTs (blkX X scope s H C cl fp) ifs tt) (he : ∀ s H C cl fp, DE (blkX X scope s H C cl fp) W0 elt te) (hN : X.N[i]? = some x := by rfl) (hl : X.env.scope.names.lookup x = some .local := by rfl)
    (hsw : swapsWith (.ListComp elt [⟨tg, iter, ifs, 0⟩] scope pos) (some (.Name x py)) spos.line X.env = pure true := by rfl) (hs : ∀ x, foldedSetIterable iter X.env x = pure x := by intro _; rfl) :
    DS X W (.Assign [.Name x py] (.ListComp elt [⟨tg, iter, ifs, 0⟩] scope pos) spos) (dAsg (dLc m ti g tt te (own.map (·.2))) (gN i)) := by
  obtain ⟨gV, h1, h2⟩ := hg
  refine ps_imp (ps_setLc (tt := cT X.K W0 tt) (te := cE X.K W0 te) G.calm G.nd hN hl hsw hi ok h1 ht he hs) fun T σ H ⟨ρ, ω, DD, a, q, kk⟩ => ?_
  exact lc_ent h2 σ H _ ⟨ρ, ω, _, _, a, q, fun d ω1 v H1 k1 r1 p1 q1 => kk.nx _ _ _ _ k1 ⟨(a.s.keep k1).set i p1, r1⟩ q1, kk.xk a⟩
end
/-! ### defs of the module -/
structure DefAt (K : PySem.W.Frag) (mg : Str → Option Value) (x : Str) (st : Stmt) (ps : List Str) : Prop where
  ex : ∃ f fd, mg x = some (.ref f) ∧ Fun K x x st f fd ∧ Binds K fd ps []
theorem defAt_mk {K : PySem.W.Frag} {mg : Str → Option Value} {h : Heap} {x : Str} {st : Stmt} {ps : List Str} {f : Addr} {oc : Value} {od an : Option Addr} {osl : Array (Option Value)} {kV doc pm cdv ct : Value} (X : K.In h) (G : h.Ns mainGlobals mg)
    (hb : ∀ (kV doc pm : Value) (an : Option Addr) (cdv ct : Value) (us : List Value), us.length = ps.length → bindArgs (PySem.W.fnOf x x (defArgs st) (defBody st) (defScope st) .none kV doc pm an cdv ct) ⟨us, []⟩ = pure (ps.zip us))
    (a : PySem.W.nsIn K mainGlobals x = some (some (.ref f)))
    (l : K.lookup f = some ⟨oc, od, .func (PySem.W.fnOf x x (defArgs st) (defBody st) (defScope st) .none kV doc pm an cdv ct), osl⟩) (c : PySem.W.codeIn K cdv x = true) (kp : PySem.W.keepIn K (.ref f) = true) : DefAt K mg x st ps :=
  ⟨f, _, PySem.W.mg_of X G a, fun_mk (st := st) l c kp, (fun_mk (st := st) l c kp).binds hb⟩
/-- the promise that is the body's own reading -/
def spB (n : Nat) (N : List Str) (t : DTS) : DSp := fun ds ω Q E => ds.length = n ∧ t (fin Q E) (beg N ds) ω
theorem cal_def {P : Program} {w : World} {K : PySem.W.Frag} {mg : Str → Option Value} {base : Heap} {x : Str} {st : Stmt} {N ps : List Str} {n k : Nat} {t : DTS} (d : DefAt K mg x st ps) (S : FnScope N ps (defScope st)) (hn : n = ps.length)
    (body : ∀ (f : Addr) (cdv : Value) (A : Around) (fr : List Env) (s : Shared) (H : Hp) (E : XK), Good (bx P w K mg base N x st f cdv A fr s H E) k (bw E) → DSs (bx P w K mg base N x st f cdv A fr s H E) (bw E) (defBody st) t) :
    Cal P w K mg base (k + 1) x ps (spB n N t) := by
  obtain ⟨f, fd, hm, D, hb⟩ := d.ex
  exact cal_of hm D hb S (fun ds ω Q E h => h.1.trans hn) fun cdv A fr s H E G => ⟨t, body f cdv A fr s H E G, fun ds ω Q Ed h => h.2⟩
/-- the law's own def -/
theorem law_def {P : Program} {w : World} {K : PySem.W.Frag} {mg : Str → Option Value} {x : Str} {st : Stmt} {N ps : List Str} {n k : Nat} {t : DTS} {p : Str} {fa : Addr} (d : DefAt K mg x st [p]) (S : FnScope N [p] (defScope st)) (hfa : mg x = some (.ref fa))
    (hb : ∀ (kV doc pm : Value) (an : Option Addr) (cdv ct : Value) (u : Value), bindArgs (PySem.W.fnOf x x (defArgs st) (defBody st) (defScope st) .none kV doc pm an cdv ct) ⟨[u], []⟩ = pure [(p, u)])
    (body : ∀ (base : Heap), K.In base → base.Ns mainGlobals mg → ∀ (f : Addr) (cdv : Value) (A : Around) (fr : List Env) (s : Shared) (H : Hp) (E : XK), Good (bx P w K mg base N x st f cdv A fr s H E) k (bw E) → DSs (bx P w K mg base N x st f cdv A fr s H E) (bw E) (defBody st) t) :
    ∃ fd : FuncData, (∀ (s : Shared) (u : Value), BindsTo s fd ⟨[u], []⟩ [(p, u)]) ∧ ∀ base : Heap, K.In base → base.Ns mainGlobals mg → FnG P w K mg base (k + 1) fa fd [p] (spB 1 N t) := by
  obtain ⟨f, fd, hm, D, _⟩ := d.ex
  rw [hfa] at hm
  cases hm
  refine ⟨fd, ?_, fun base h1 h2 => def_ok D S (fun ds ω Q E h => h.1) fun cdv A fr s H E G => ⟨t, body base h1 h2 _ cdv A fr s H E G, fun ds ω Q Ed h => h.2⟩⟩
  obtain ⟨oc, od, kV, doc, pm, an, cdv, ct, osl, rfl, _⟩ := D.ex
  exact fun s u => .of_eq (hb ..)
/-- the error classes, one behind another -/
def AllE (K : PySem.W.Frag) (S : Addr) : List Addr → Prop
  | [] => True
  | C :: cs => ExcK K S C ∧ AllE K S cs
theorem AllE.all {K : PySem.W.Frag} {S : Addr} : ∀ {cs : List Addr}, AllE K S cs → ∀ C ∈ cs, ExcK K S C
  | [], _, _, h => by cases h
  | _ :: cs, a, C, h => by
    rcases List.mem_cons.mp h with rfl | h
    · exact a.1
    · exact AllE.all a.2 C h
def AllF (K : PySem.W.Frag) (g : Str) : List Addr → Prop
  | [] => True
  | C :: cs => PySem.W.findIn K (.ref C) g = some none ∧ AllF K g cs
theorem AllF.all {K : PySem.W.Frag} {g : Str} : ∀ {cs : List Addr}, AllF K g cs → ∀ C ∈ cs, PySem.W.findIn K (.ref C) g = some none
  | [], _, _, h => by cases h
  | _ :: cs, a, C, h => by
    rcases List.mem_cons.mp h with rfl | h
    · exact a.1
    · exact AllF.all a.2 C h
end DL
end

section
set_option Elab.async false
set_option linter.all false
set_option maxRecDepth 100000
/-! DLW: readings told in plain words: rewriting rules. -/
namespace DL
open PySem PySem.Spec L2
open PyProof.Rows hiding St
section
variable {ω : Sto} {Q : DQ} {m : Bool} {i j : Int} {x y : Str} {ds es : List D} {d e : D} {p : Addr} {b c : Bool}
@[simp] theorem r_int : der ω (.int i) = .int i := rfl
theorem r_bl : der ω (.bl b) = .bl b := rfl
theorem r_str : der ω (.str x) = .str x := rfl
theorem r_non : der ω .non = .non := rfl
theorem r_tup : der ω (.tup ds) = .tup ds := rfl
theorem r_lst : der ω (.lst ds) = .lst ds := rfl
theorem r_scr : der ω (.scr ds) = .scr ds := rfl
theorem r_dic {ks : List (Key × D)} : der ω (.dic ks) = .dic ks := rfl
theorem r_exn {C : Addr} {fs : List (Str × D)} : der ω (.exn C fs) = .exn C fs := rfl
theorem r_put : der (put ω p (.lst ds)) (.ref p) = .lst ds := by
  show derR _ p = _
  unfold derR; rw [put_same]
theorem r_ref (h : ω p = some (.lst ds)) : der ω (.ref p) = .lst ds := by
  show derR _ p = _
  unfold derR; rw [h]
theorem r_refd {ks : List (Key × D)} (h : ω p = some (.dic ks)) : der ω (.ref p) = .dic ks := by
  show derR _ p = _
  unfold derR; rw [h]
theorem w_add : oAdd m (.int i) (.int j) ω Q = Q (.int (i + j)) ω := rfl
theorem w_addS : oAdd m (.str x) (.str y) ω Q = (x.length + y.length ≤ sizeLine ∧ Q (.str (x ++ y)) ω) := rfl
theorem w_addL : oAdd m (.lst ds) (.lst es) ω Q = (ds.length + es.length ≤ sizeLine ∧ nl m (ds ++ es) ω Q) := rfl
theorem w_addT : oAdd m (.tup ds) (.tup es) ω Q = (ds.length + es.length ≤ sizeLine ∧ Q (.tup (ds ++ es)) ω) := rfl
theorem w_oI {C : Int → Int → Prop} {g : Int → Int → D} : oI C g (.int i) (.int j) ω Q = (C i j ∧ Q (g i j) ω) := rfl
theorem w_cmp {f : Int → Int → Bool} {q : List Nat → List Nat → Bool} : oCmp f q (.int i) (.int j) ω Q = Q (.bl (f i j)) ω := rfl
theorem w_i1 {g : Int → D} : oI1 g [.int i] ω Q = Q (g i) ω := rfl
theorem w_i2 {C : Int → Int → Prop} {g : Int → Int → D} : oI2 C g [.int i, .int j] ω Q = (C i j ∧ Q (g i j) ω) := rfl
theorem w_int : oInt [.int i] ω Q = Q (.int i) ω := rfl
theorem w_nl0 : nl false ds ω Q = Q (.lst ds) ω := rfl
theorem w_nl1 : nl true ds ω Q = ∀ p, ω p = none → Q (.ref p) (put ω p (.lst ds)) := rfl
theorem w_slS {lo hi : Option Int} : oSl m (.scr ds) lo hi ω Q = nl m (cutL ds lo hi) ω Q := rfl
theorem w_slL {lo hi : Option Int} : oSl m (.lst ds) lo hi ω Q = nl m (cutL ds lo hi) ω Q := rfl
theorem w_slT {lo hi : Option Int} : oSl m (.tup ds) lo hi ω Q = Q (.tup (cutL ds lo hi)) ω := rfl
theorem w_eq : oEq d e ω Q = (plainD (der ω d) = true ∧ plainD (der ω e) = true ∧ shal (der ω d) (der ω e) ∧ Q (.bl (eqD (der ω d) (der ω e))) ω) := rfl
theorem w_isN : oIsN d .non ω Q = Q (.bl (isNon d)) ω := rfl
theorem w_notN : oNotN d .non ω Q = Q (.bl (!isNon d)) ω := rfl
theorem at0 {a : D} {l : List D} : atI (a :: l) 0 = some a := by
  unfold atI ixN
  rw [if_pos (by decide), if_pos (by rw [List.length_cons]; omega)]
  rfl
theorem at1 {a a1 : D} {l : List D} : atI (a :: a1 :: l) 1 = some a1 := by
  unfold atI ixN
  rw [if_pos (by decide), if_pos (by rw [List.length_cons, List.length_cons]; omega)]
  rfl
theorem at2 {a a1 a2 : D} {l : List D} : atI (a :: a1 :: a2 :: l) 2 = some a2 := by
  unfold atI ixN
  rw [if_pos (by decide), if_pos (by rw [List.length_cons, List.length_cons, List.length_cons]; omega)]
  rfl
theorem at_of {ds : List D} {i : Int} {d : D} {n : Nat} (h : i = n) (e : ds[n]? = some d) : atI ds i = some d := by
  subst h
  have hl : n < ds.length := (List.getElem?_eq_some_iff.mp e).1
  unfold atI ixN
  rw [if_pos (by omega), if_pos (by omega)]
  simpa using e
/-- o[i] of what is seen as a list -/
theorem x_ix {z : D} (h : der ω d = .lst ds) (e : atI ds i = some z) (q : Q z ω) : oIx d (.int i) ω Q := by
  unfold oIx
  rw [h]
  refine ⟨trivial, ?_⟩
  show (match atI ds i with | some z => Q z ω | none => False)
  rw [e]
  exact q
theorem x_ixT {z : D} (h : der ω d = .tup ds) (e : atI ds i = some z) (q : Q z ω) : oIx d (.int i) ω Q := by
  unfold oIx
  rw [h]
  refine ⟨trivial, ?_⟩
  show (match atI ds i with | some z => Q z ω | none => False)
  rw [e]
  exact q
theorem x_ixS {z : D} (h : der ω d = .scr ds) (e : atI ds i = some z) (q : Q z ω) : oIx d (.int i) ω Q := by
  unfold oIx
  rw [h]
  refine ⟨trivial, ?_⟩
  show (match atI ds i with | some z => Q z ω | none => False)
  rw [e]
  exact q
theorem w_sL0 {a a1 a2 v : D} {R : Sto → Prop} (h : ω p = some (.lst [a, a1, a2])) : sL (.ref p) (.int 0) v ω R = R (put ω p (.lst [v, a1, a2])) := by
  unfold sL
  simp only [h]
  rfl
theorem w_sL1 {a a1 a2 v : D} {R : Sto → Prop} (h : ω p = some (.lst [a, a1, a2])) : sL (.ref p) (.int 1) v ω R = R (put ω p (.lst [a, v, a2])) := by
  unfold sL
  simp only [h]
  rfl
theorem w_sL2 {a a1 a2 v : D} {R : Sto → Prop} (h : ω p = some (.lst [a, a1, a2])) : sL (.ref p) (.int 2) v ω R = R (put ω p (.lst [a, a1, v])) := by
  unfold sL
  simp only [h]
  rfl
theorem w_len (h : der ω d = .lst ds) (q : Q (.int ds.length) ω) : oLen [d] ω Q := by
  show okIx (der ω d) ∧ _
  rw [h]
  exact ⟨trivial, q⟩
theorem w_lenT (h : der ω d = .tup ds) (q : Q (.int ds.length) ω) : oLen [d] ω Q := by
  show okIx (der ω d) ∧ _
  rw [h]
  exact ⟨trivial, q⟩
theorem w_lenS (h : der ω d = .scr ds) (q : Q (.int ds.length) ω) : oLen [d] ω Q := by
  show okIx (der ω d) ∧ _
  rw [h]
  exact ⟨trivial, q⟩
theorem truB {R : Bool → Prop} : tru (.bl b) ω R = R b := by
  unfold tru
  simp only [r_bl, okTru, noDic, truD, true_and]
theorem xk_at {nx : Rho → Sto → Prop} {rt : D → Sto → Prop} {bk ct : Rho → Sto → Prop} {ex : Exn → Rho → Sto → Prop} {ρ : Rho} : xk ⟨nx, rt, bk, ct, ex⟩ ρ = fun x ω => ex x ρ ω := rfl
theorem nx_at {nx : Rho → Sto → Prop} {rt : D → Sto → Prop} {bk ct : Rho → Sto → Prop} {ex : Exn → Rho → Sto → Prop} : DEn.nx ⟨nx, rt, bk, ct, ex⟩ = nx := rfl
theorem rt_at {nx : Rho → Sto → Prop} {rt : D → Sto → Prop} {bk ct : Rho → Sto → Prop} {ex : Exn → Rho → Sto → Prop} : DEn.rt ⟨nx, rt, bk, ct, ex⟩ = rt := rfl
theorem sz {n : Nat} (h : n ≤ 16777216) : n ≤ sizeLine := by rw [sizeLine_eq]; exact h
theorem w_dsp1 {k : Str} {v : D} {ρ : Rho} {E : DX} (q : Q (.dic [(.inr k, v)]) ω) : dDsp false [(dK (.str k), dK v)] ρ ω Q E := fun p n => by
  refine ⟨put_same, ?_⟩
  show _ ∧ Q (.dic [(.inr k, v)]) (cut (put (put ω p (.dic [])) p (.dic _)) p)
  rw [put_put, cut_put n]
  exact ⟨(show 1 ≤ 15 by decide), q⟩
theorem eq_str {x y : Str} (hx : PyData.strOk x = true) (hy : PyData.strOk y = true) (q : Q (.bl (decide (x = y))) ω) : oEq (.str x) (.str y) ω Q := by
  refine ⟨hx, hy, .inl (by show (PyData.str x).depth ≤ 64; simp [PyData.depth]), ?_⟩
  have e : eqD (.str x) (.str y) = decide (x = y) := by
    show PyData.eqv (.str x) (.str y) = _
    unfold PyData.eqv
    by_cases h : x = y
    · subst h; simp
    · simp [h]
  show Q (.bl (eqD (.str x) (.str y))) ω
  rw [e]
  exact q
/-- the store but for what stands at p -/
def Beside (p : Addr) (ω ω' : Sto) : Prop := ∀ q, q ≠ p → ω' q = ω q
theorem Beside.refl : Beside p ω ω := fun _ _ => rfl
theorem Beside.put {o : OO} : Beside p ω (put ω p o) := fun q h => put_ne h
theorem Beside.trans {ω1 ω2 : Sto} (a : Beside p ω ω1) (b : Beside p ω1 ω2) : Beside p ω ω2 := fun q h => (b q h).trans (a q h)
end
end DL
end

section
set_option Elab.async false
set_option maxRecDepth 100000
open PySem PySem.W PyProof.Rows
set_option maxHeartbeats 0 in
open_top hd for PySem.Challenge.rw_plainstops_k01_errors_each_of_its_own
end

section
set_option Elab.async false
set_option linter.all false
set_option maxRecDepth 100000
set_option maxHeartbeats 2000000
namespace K01
open PySem PySem.Spec L2 DL
open PyProof.Rows hiding St
def top (i : Nat) : Stmt := PySem.Challenge.pw_plainstops_k01_errors_each_of_its_own.main.body.getD i (.Pass ⟨0, 0, 0, 0⟩)
def meth (s : Stmt) : Stmt := match s with
  | .ClassDef _ _ _ b _ _ _ _ _ _ _ => b.getD 0 (.Pass ⟨0, 0, 0, 0⟩)
  | _ => .Pass ⟨0, 0, 0, 0⟩
abbrev errs : List Addr := [46, 67, 88, 109, 130, 151, 172, 193, 214, 235, 256, 277, 298, 319, 340, 361, 382, 403, 424, 445, 457, 469, 481]
def t__law_well : DTS :=
  (dSeq (dAsg (dOp (oAdd false) (dK (.int 4741181)) (dOp oMul (dK (.int 5231)) (dVar 1))) (gN 2))
  (dSeq (dFor (dIt (dSl false (dVar 0) dNoP (dP (dK (.int 9))))) (gN 3) (dAsg (dOp oMod (dCl oInt (dCons (dOp (oAdd false) (dOp (oAdd false) (dOp oMul (dVar 2) (dK (.int 47521))) (dOp oMod (dCl oInt (dCons (dVar 3) dNil)) (dK (.int 2147483549)))) (dK (.int 41))) dNil)) (dK (.int 2147483629))) (gN 2)))
  (dSeq (dAsg (dIf (dTst (dOp oLt (dVar 1) (dCl oLen (dCons (dVar 0) dNil)))) (dCl oInt (dCons (dOp oIx (dVar 0) (dVar 1)) dNil)) (dK (.int 0))) (gN 4))
  (dSeq (dAsg (dOp oMod (dCl oInt (dCons (dOp (oAdd false) (dOp (oAdd false) (dOp oMul (dVar 2) (dK (.int 61))) (dOp oMul (dOp oMod (dCl oInt (dCons (dVar 4) dNil)) (dK (.int 2147483549))) (dK (.int 16007)))) (dK (.int 17))) dNil)) (dK (.int 2147483629))) (gN 2))
  (dRet (dOpn (dCons (dIf (dOr (dTst (dOp oLt (dVar 4) (dK (.int 0)))) (dTst (dOp oGe (dVar 4) (dOp oPow (dK (.int 10)) (dK (.int 15)))))) (dCl oAbs (dCons (dVar 4) dNil)) (dK (.int 0))) (dCons (dVar 2) (dCons (dK (.int 0)) dNil)))))))))
def sp__law_well : DSp := spB 2 ["script", "lap", "stirred", "cell", "own"] t__law_well
def t__law_draw : DTS :=
  (dSeq (dIfS (dTst (dOp oGt (dOp oIx (dVar 0) (dK (.int 0))) (dK (.int 0)))) (dSeq (dAsg (dCl oDivm (dCons (dOp oIx (dVar 0) (dK (.int 0))) (dCons (dVar 1) dNil))) (gT 2 (gsCons (gSb sL (dVar 0) (dK (.int 0))) (gsCons (gN 2) gsNil))))
  (dRet (dVar 2))) dNx)
  (dSeq (dAsg (dOp (oAdd false) (dOp oIx (dVar 0) (dK (.int 2))) (dK (.int 1))) (gSb sL (dVar 0) (dK (.int 2))))
  (dSeq (dAsg (dOp oMod (dCl oInt (dCons (dOp (oAdd false) (dOp oMul (dOp oIx (dVar 0) (dK (.int 1))) (dK (.int 40009))) (dOp oMul (dK (.int 15013)) (dOp oIx (dVar 0) (dK (.int 2))))) dNil)) (dK (.int 2147483629))) (gN 3))
  (dSeq (dAsg (dOp oMod (dCl oInt (dCons (dOp (oAdd false) (dOp oMul (dVar 3) (dOp (oAdd false) (dOp oMod (dCl oInt (dCons (dVar 3) dNil)) (dK (.int 5003))) (dK (.int 20011)))) (dOp oIx (dVar 0) (dK (.int 2)))) dNil)) (dK (.int 2147483629))) (gSb sL (dVar 0) (dK (.int 1))))
  (dRet (dOp oMod (dCl oInt (dCons (dOp oFdv (dOp oIx (dVar 0) (dK (.int 1))) (dK (.int 1031))) dNil)) (dVar 1)))))))
def sp__law_draw : DSp := spB 2 ["well", "limit", "figure", "mixed"] t__law_draw
def t__law_of : DTS :=
  (dRet (dOp oIx (dVar 1) (dCall sp__law_draw (dCons (dVar 0) (dCons (dCl oLen (dCons (dVar 1) dNil)) dNil)))))
def sp__law_of : DSp := spB 2 ["well", "some"] t__law_of
def t__law_is : DTS :=
  (dRet (dOp oEq (dCl oRepr1 (dCons (dVar 0) dNil)) (dCl oRepr1 (dCons (dVar 1) dNil))))
def sp__law_is : DSp := spB 2 ["told", "due"] t__law_is
def t__law_given : DTS :=
  (dRet (dLst (dCons (dK (.str "InvalidText")) (dCons (dK (.str "InvalidProgram")) (dCons (dK (.str "InvalidExpression")) (dCons (dK (.str "InvalidNumber")) (dCons (dK (.str "InvalidImage")) (dCons (dK (.str "InvalidTable")) (dCons (dK (.str "InvalidDump")) (dCons (dK (.str "InvalidPoint")) (dCons (dK (.str "InvalidRow")) (dCons (dK (.str "InvalidFormula")) (dCons (dK (.str "InvalidPacked")) (dCons (dK (.str "InvalidStand")) (dCons (dK (.str "InvalidCommand")) (dCons (dK (.str "UnknownName")) (dCons (dK (.str "TooMany")) (dCons (dK (.str "NotADesk")) dNil))))))))))))))))))
def sp__law_given : DSp := spB 0 [] t__law_given
def t__law_index : DTS :=
  (dRet (dLst (dCons (dK (.str "InvalidPasses")) (dCons (dK (.str "InvalidInputs")) (dCons (dK (.str "InvalidScript")) dNil)))))
def sp__law_index : DSp := spB 0 [] t__law_index
def t__law_value : DTS :=
  (dSeq (dAsg (dTup (dCons (dK .non) (dCons (dK (.bl true)) (dCons (dK (.bl false)) (dCons (dK (.int 0)) (dCons (dNeg (dK (.int 1))) (dCons (dK (.int 7)) (dCons (dOp oPow (dK (.int 10)) (dK (.int 50))) (dCons (dK (.str "")) (dCons (dK (.str "ann")) (dCons (dK (.str " ")) (dCons (dTup dNil) (dCons (dTup (dCons (dK (.int 1)) (dCons (dTup (dCons (dK (.str "a")) dNil)) dNil))) (dCons (dLst dNil) (dCons dE0 (dCons (dLst (dCons (dK (.str "x")) dNil)) (dCons (dDsp false [((dK (.str "a")), (dK (.int 1)))]) dNil))))))))))))))))) (gN 1))
  (dRet (dCall sp__law_of (dCons (dVar 0) (dCons (dOp (oAdd false) (dVar 1) (dTup (dCons (dTup (dCons (dK .non) (dCons (dK (.bl true)) dNil))) dNil))) dNil)))))
def sp__law_value : DSp := spB 1 ["well", "some"] t__law_value
def t__law_made_a : DTS :=
  (dSeq (dIfS (dTst (dOp oEq (dVar 0) (dK (.str "InvalidText")))) (dRet (dIf (dTru (dVar 2)) (dErr 46 "given" (dVar 1)) (dErr 46 "given" (dVar 1)))) dNx)
  (dSeq (dIfS (dTst (dOp oEq (dVar 0) (dK (.str "InvalidProgram")))) (dRet (dIf (dTru (dVar 2)) (dErr 67 "given" (dVar 1)) (dErr 67 "given" (dVar 1)))) dNx)
  (dSeq (dIfS (dTst (dOp oEq (dVar 0) (dK (.str "InvalidExpression")))) (dRet (dIf (dTru (dVar 2)) (dErr 88 "given" (dVar 1)) (dErr 88 "given" (dVar 1)))) dNx)
  (dSeq (dIfS (dTst (dOp oEq (dVar 0) (dK (.str "InvalidNumber")))) (dRet (dIf (dTru (dVar 2)) (dErr 109 "given" (dVar 1)) (dErr 109 "given" (dVar 1)))) dNx)
  (dSeq (dIfS (dTst (dOp oEq (dVar 0) (dK (.str "InvalidImage")))) (dRet (dIf (dTru (dVar 2)) (dErr 130 "given" (dVar 1)) (dErr 130 "given" (dVar 1)))) dNx)
  (dSeq (dIfS (dTst (dOp oEq (dVar 0) (dK (.str "InvalidTable")))) (dRet (dIf (dTru (dVar 2)) (dErr 151 "given" (dVar 1)) (dErr 151 "given" (dVar 1)))) dNx)
  (dSeq (dIfS (dTst (dOp oEq (dVar 0) (dK (.str "InvalidDump")))) (dRet (dIf (dTru (dVar 2)) (dErr 172 "given" (dVar 1)) (dErr 172 "given" (dVar 1)))) dNx)
  (dSeq (dIfS (dTst (dOp oEq (dVar 0) (dK (.str "InvalidPoint")))) (dRet (dIf (dTru (dVar 2)) (dErr 193 "given" (dVar 1)) (dErr 193 "given" (dVar 1)))) dNx)
  (dSeq (dIfS (dTst (dOp oEq (dVar 0) (dK (.str "InvalidRow")))) (dRet (dIf (dTru (dVar 2)) (dErr 214 "given" (dVar 1)) (dErr 214 "given" (dVar 1)))) dNx)
  (dSeq (dIfS (dTst (dOp oEq (dVar 0) (dK (.str "InvalidFormula")))) (dRet (dIf (dTru (dVar 2)) (dErr 235 "given" (dVar 1)) (dErr 235 "given" (dVar 1)))) dNx)
  (dSeq (dIfS (dTst (dOp oEq (dVar 0) (dK (.str "InvalidPacked")))) (dRet (dIf (dTru (dVar 2)) (dErr 256 "given" (dVar 1)) (dErr 256 "given" (dVar 1)))) dNx)
  (dSeq (dIfS (dTst (dOp oEq (dVar 0) (dK (.str "InvalidStand")))) (dRet (dIf (dTru (dVar 2)) (dErr 277 "given" (dVar 1)) (dErr 277 "given" (dVar 1)))) dNx)
  (dSeq (dIfS (dTst (dOp oEq (dVar 0) (dK (.str "InvalidCommand")))) (dRet (dIf (dTru (dVar 2)) (dErr 298 "given" (dVar 1)) (dErr 298 "given" (dVar 1)))) dNx)
  (dSeq (dIfS (dTst (dOp oEq (dVar 0) (dK (.str "UnknownName")))) (dRet (dIf (dTru (dVar 2)) (dErr 319 "given" (dVar 1)) (dErr 319 "given" (dVar 1)))) dNx)
  (dSeq (dIfS (dTst (dOp oEq (dVar 0) (dK (.str "TooMany")))) (dRet (dIf (dTru (dVar 2)) (dErr 340 "given" (dVar 1)) (dErr 340 "given" (dVar 1)))) dNx)
  (dSeq (dIfS (dTst (dOp oEq (dVar 0) (dK (.str "NotADesk")))) (dRet (dIf (dTru (dVar 2)) (dErr 361 "given" (dVar 1)) (dErr 361 "given" (dVar 1)))) dNx)
  (dSeq (dIfS (dTst (dOp oEq (dVar 0) (dK (.str "InvalidPasses")))) (dRet (dIf (dTru (dVar 2)) (dErr 382 "index" (dVar 1)) (dErr 382 "index" (dVar 1)))) dNx)
  (dRet (dK .non)))))))))))))))))))
def sp__law_made_a : DSp := spB 3 ["word", "value", "is_named"] t__law_made_a
def t__law_made_b : DTS :=
  (dSeq (dIfS (dTst (dOp oEq (dVar 0) (dK (.str "InvalidInputs")))) (dRet (dIf (dTru (dVar 2)) (dErr 403 "index" (dVar 1)) (dErr 403 "index" (dVar 1)))) dNx)
  (dSeq (dIfS (dTst (dOp oEq (dVar 0) (dK (.str "InvalidScript")))) (dRet (dIf (dTru (dVar 2)) (dErr 424 "index" (dVar 1)) (dErr 424 "index" (dVar 1)))) dNx)
  (dSeq (dIfS (dTst (dOp oEq (dVar 0) (dK (.str "Wrong")))) (dRet (dIf (dTru (dVar 2)) (dErr 445 "inputs" (dVar 1)) (dErr 445 "inputs" (dVar 1)))) dNx)
  (dRet (dK .non)))))
def sp__law_made_b : DSp := spB 3 ["word", "value", "is_named"] t__law_made_b
def t__law_made : DTS :=
  (dSeq (dAsg (dCall sp__law_made_a (dCons (dVar 0) (dCons (dVar 1) (dCons (dVar 2) dNil)))) (gN 3))
  (dSeq (dAsg (dIf (dTst (dOp oIsN (dVar 3) (dK .non))) (dCall sp__law_made_b (dCons (dVar 0) (dCons (dVar 1) (dCons (dVar 2) dNil)))) (dVar 3)) (gN 3))
  (dRet (dVar 3))))
def sp__law_made : DSp := spB 3 ["word", "value", "is_named", "found"] t__law_made
def t__law_kinds_a : DTS :=
  (dSeq (dAsg (dIf (dTru (dCl (oIsx 24 errs) (dCons (dVar 0) (dCons (dK (.ref 46)) dNil)))) (dLst (dCons (dK (.str "InvalidText")) dNil)) (dLst dNil)) (gN 1))
  (dSeq (dAsg (dOp (oAdd false) (dVar 1) (dIf (dTru (dCl (oIsx 24 errs) (dCons (dVar 0) (dCons (dK (.ref 67)) dNil)))) (dLst (dCons (dK (.str "InvalidProgram")) dNil)) (dLst dNil))) (gN 1))
  (dSeq (dAsg (dOp (oAdd false) (dVar 1) (dIf (dTru (dCl (oIsx 24 errs) (dCons (dVar 0) (dCons (dK (.ref 88)) dNil)))) (dLst (dCons (dK (.str "InvalidExpression")) dNil)) (dLst dNil))) (gN 1))
  (dSeq (dAsg (dOp (oAdd false) (dVar 1) (dIf (dTru (dCl (oIsx 24 errs) (dCons (dVar 0) (dCons (dK (.ref 109)) dNil)))) (dLst (dCons (dK (.str "InvalidNumber")) dNil)) (dLst dNil))) (gN 1))
  (dSeq (dAsg (dOp (oAdd false) (dVar 1) (dIf (dTru (dCl (oIsx 24 errs) (dCons (dVar 0) (dCons (dK (.ref 130)) dNil)))) (dLst (dCons (dK (.str "InvalidImage")) dNil)) (dLst dNil))) (gN 1))
  (dSeq (dAsg (dOp (oAdd false) (dVar 1) (dIf (dTru (dCl (oIsx 24 errs) (dCons (dVar 0) (dCons (dK (.ref 151)) dNil)))) (dLst (dCons (dK (.str "InvalidTable")) dNil)) (dLst dNil))) (gN 1))
  (dSeq (dAsg (dOp (oAdd false) (dVar 1) (dIf (dTru (dCl (oIsx 24 errs) (dCons (dVar 0) (dCons (dK (.ref 172)) dNil)))) (dLst (dCons (dK (.str "InvalidDump")) dNil)) (dLst dNil))) (gN 1))
  (dSeq (dAsg (dOp (oAdd false) (dVar 1) (dIf (dTru (dCl (oIsx 24 errs) (dCons (dVar 0) (dCons (dK (.ref 193)) dNil)))) (dLst (dCons (dK (.str "InvalidPoint")) dNil)) (dLst dNil))) (gN 1))
  (dSeq (dAsg (dOp (oAdd false) (dVar 1) (dIf (dTru (dCl (oIsx 24 errs) (dCons (dVar 0) (dCons (dK (.ref 214)) dNil)))) (dLst (dCons (dK (.str "InvalidRow")) dNil)) (dLst dNil))) (gN 1))
  (dSeq (dAsg (dOp (oAdd false) (dVar 1) (dIf (dTru (dCl (oIsx 24 errs) (dCons (dVar 0) (dCons (dK (.ref 235)) dNil)))) (dLst (dCons (dK (.str "InvalidFormula")) dNil)) (dLst dNil))) (gN 1))
  (dSeq (dAsg (dOp (oAdd false) (dVar 1) (dIf (dTru (dCl (oIsx 24 errs) (dCons (dVar 0) (dCons (dK (.ref 256)) dNil)))) (dLst (dCons (dK (.str "InvalidPacked")) dNil)) (dLst dNil))) (gN 1))
  (dSeq (dAsg (dOp (oAdd false) (dVar 1) (dIf (dTru (dCl (oIsx 24 errs) (dCons (dVar 0) (dCons (dK (.ref 277)) dNil)))) (dLst (dCons (dK (.str "InvalidStand")) dNil)) (dLst dNil))) (gN 1))
  (dSeq (dAsg (dOp (oAdd false) (dVar 1) (dIf (dTru (dCl (oIsx 24 errs) (dCons (dVar 0) (dCons (dK (.ref 298)) dNil)))) (dLst (dCons (dK (.str "InvalidCommand")) dNil)) (dLst dNil))) (gN 1))
  (dSeq (dAsg (dOp (oAdd false) (dVar 1) (dIf (dTru (dCl (oIsx 24 errs) (dCons (dVar 0) (dCons (dK (.ref 319)) dNil)))) (dLst (dCons (dK (.str "UnknownName")) dNil)) (dLst dNil))) (gN 1))
  (dSeq (dAsg (dOp (oAdd false) (dVar 1) (dIf (dTru (dCl (oIsx 24 errs) (dCons (dVar 0) (dCons (dK (.ref 340)) dNil)))) (dLst (dCons (dK (.str "TooMany")) dNil)) (dLst dNil))) (gN 1))
  (dSeq (dAsg (dOp (oAdd false) (dVar 1) (dIf (dTru (dCl (oIsx 24 errs) (dCons (dVar 0) (dCons (dK (.ref 361)) dNil)))) (dLst (dCons (dK (.str "NotADesk")) dNil)) (dLst dNil))) (gN 1))
  (dSeq (dAsg (dOp (oAdd false) (dVar 1) (dIf (dTru (dCl (oIsx 24 errs) (dCons (dVar 0) (dCons (dK (.ref 382)) dNil)))) (dLst (dCons (dK (.str "InvalidPasses")) dNil)) (dLst dNil))) (gN 1))
  (dSeq (dAsg (dOp (oAdd false) (dVar 1) (dIf (dTru (dCl (oIsx 24 errs) (dCons (dVar 0) (dCons (dK (.ref 403)) dNil)))) (dLst (dCons (dK (.str "InvalidInputs")) dNil)) (dLst dNil))) (gN 1))
  (dSeq (dAsg (dOp (oAdd false) (dVar 1) (dIf (dTru (dCl (oIsx 24 errs) (dCons (dVar 0) (dCons (dK (.ref 424)) dNil)))) (dLst (dCons (dK (.str "InvalidScript")) dNil)) (dLst dNil))) (gN 1))
  (dSeq (dAsg (dOp (oAdd false) (dVar 1) (dIf (dTru (dCl (oIsx 24 errs) (dCons (dVar 0) (dCons (dK (.ref 457)) dNil)))) (dLst (dCons (dK (.str "NotLet")) dNil)) (dLst dNil))) (gN 1))
  (dRet (dVar 1))))))))))))))))))))))
def sp__law_kinds_a : DSp := spB 1 ["e", "found"] t__law_kinds_a
def t__law_kinds_b : DTS :=
  (dSeq (dAsg (dIf (dTru (dCl (oIsx 24 errs) (dCons (dVar 0) (dCons (dK (.ref 469)) dNil)))) (dLst (dCons (dK (.str "Ended")) dNil)) (dLst dNil)) (gN 1))
  (dSeq (dAsg (dOp (oAdd false) (dVar 1) (dIf (dTru (dCl (oIsx 24 errs) (dCons (dVar 0) (dCons (dK (.ref 481)) dNil)))) (dLst (dCons (dK (.str "NotKept")) dNil)) (dLst dNil))) (gN 1))
  (dSeq (dAsg (dOp (oAdd false) (dVar 1) (dIf (dTru (dCl (oIsx 24 errs) (dCons (dVar 0) (dCons (dK (.ref 445)) dNil)))) (dLst (dCons (dK (.str "Wrong")) dNil)) (dLst dNil))) (gN 1))
  (dRet (dVar 1)))))
def sp__law_kinds_b : DSp := spB 1 ["e", "found"] t__law_kinds_b
def t__law_is_own : DTS :=
  (dSeq (dAsg (dCl (oIsx 24 errs) (dCons (dVar 0) (dCons (dTup (dCons (dK (.ty "TypeError")) (dCons (dK (.ty "LookupError")) (dCons (dK (.ty "ArithmeticError")) (dCons (dK (.ty "AttributeError")) (dCons (dK (.ty "RuntimeError")) dNil)))))) dNil))) (gN 2))
  (dSeq (dAsg (dOp (oAdd false) (dCall sp__law_kinds_a (dCons (dVar 0) dNil)) (dCall sp__law_kinds_b (dCons (dVar 0) dNil))) (gN 3))
  (dRet (dCall sp__law_is (dCons (dLst (dCons (dVar 3) (dCons (dCl (oIsx 24 errs) (dCons (dVar 0) (dCons (dK (.ref 24)) dNil))) (dCons (dCl (oIsx 24 errs) (dCons (dVar 0) (dCons (dK (.ty "ValueError")) dNil))) (dCons (dVar 2) dNil))))) (dCons (dLst (dCons (dLst (dCons (dVar 1) dNil)) (dCons (dK (.bl true)) (dCons (dK (.bl true)) (dCons (dK (.bl false)) dNil))))) dNil))))))
def sp__law_is_own : DSp := spB 2 ["e", "word", "others", "found"] t__law_is_own
def t__law_right : DTS :=
  (dSeq (dFor (dIt (dOp (oAdd false) (dOp (oAdd false) (dCall sp__law_given dNil) (dCall sp__law_index dNil)) (dLst (dCons (dK (.str "Wrong")) dNil)))) (gN 1) (dFor (dIt (dTup (dCons (dK (.bl false)) (dCons (dK (.bl true)) dNil)))) (gN 2) (dSeq (dAsg (dCall sp__law_value (dCons (dVar 0) dNil)) (gN 3))
  (dSeq (dAsg (dCall sp__law_made (dCons (dVar 1) (dCons (dVar 3) (dCons (dVar 2) dNil)))) (gN 4))
  (dSeq (dAsg (dIf (dTst (dOp (oIn false) (dVar 1) (dCall sp__law_given dNil))) (dFld errs "given" (dVar 4)) (dIf (dTst (dOp oEq (dVar 1) (dK (.str "Wrong")))) (dFld errs "inputs" (dVar 4)) (dFld errs "index" (dVar 4)))) (gN 5))
  (dIfS (dOr (dNot (dTru (dCall sp__law_is (dCons (dVar 5) (dCons (dVar 3) dNil))))) (dNot (dTru (dCall sp__law_is_own (dCons (dVar 4) (dCons (dVar 1) dNil)))))) (dRet (dK (.bl false))) dNx))))))
  (dRet (dAndV (dCall sp__law_is_own (dCons (dEx0 457) (dCons (dK (.str "NotLet")) dNil))) (dAndV (dCall sp__law_is_own (dCons (dEx0 469) (dCons (dK (.str "Ended")) dNil))) (dCall sp__law_is_own (dCons (dEx0 481) (dCons (dK (.str "NotKept")) dNil)))))))
def sp__law_right : DSp := spB 1 ["well", "word", "is_named", "value", "e", "kept"] t__law_right
def t_law : DTS :=
  (dRet (dCl oAll (dCons (dLc false (dRng1 (dCons (dCl oMax (dCons (dK (.int 1)) (dCons (dCl oMin (dCons (dCl oLen (dCons (dVar 0) dNil)) (dCons (dK (.int 2)) dNil))) dNil))) dNil)) (gN 1) dYes (dCall sp__law_right (dCons (dCall sp__law_well (dCons (dVar 0) (dCons (dVar 1) dNil))) dNil)) [1]) dNil)))
def sp_law : DSp := spB 1 ["script", "lap"] t_law
/-- what the walks lean on: names of the module, of the language, the error classes -/
structure Mf (P : Program) (K : PySem.W.Frag) (mg : Str → Option Value) : Prop where
  b_int : mg "int" = none
  b_len : mg "len" = none
  b_abs : mg "abs" = none
  b_divmod : mg "divmod" = none
  b_repr : mg "repr" = none
  b_isinstance : mg "isinstance" = none
  b_RuntimeError : mg "RuntimeError" = none
  b_AttributeError : mg "AttributeError" = none
  b_ArithmeticError : mg "ArithmeticError" = none
  b_LookupError : mg "LookupError" = none
  b_TypeError : mg "TypeError" = none
  b_ValueError : mg "ValueError" = none
  b_all : mg "all" = none
  b_range : mg "range" = none
  b_max : mg "max" = none
  b_min : mg "min" = none
  g_InvalidText : mg "InvalidText" = some (.ref 46)
  g_InvalidProgram : mg "InvalidProgram" = some (.ref 67)
  g_InvalidExpression : mg "InvalidExpression" = some (.ref 88)
  g_InvalidNumber : mg "InvalidNumber" = some (.ref 109)
  g_InvalidImage : mg "InvalidImage" = some (.ref 130)
  g_InvalidTable : mg "InvalidTable" = some (.ref 151)
  g_InvalidDump : mg "InvalidDump" = some (.ref 172)
  g_InvalidPoint : mg "InvalidPoint" = some (.ref 193)
  g_InvalidRow : mg "InvalidRow" = some (.ref 214)
  g_InvalidFormula : mg "InvalidFormula" = some (.ref 235)
  g_InvalidPacked : mg "InvalidPacked" = some (.ref 256)
  g_InvalidStand : mg "InvalidStand" = some (.ref 277)
  g_InvalidCommand : mg "InvalidCommand" = some (.ref 298)
  g_UnknownName : mg "UnknownName" = some (.ref 319)
  g_TooMany : mg "TooMany" = some (.ref 340)
  g_NotADesk : mg "NotADesk" = some (.ref 361)
  g_InvalidPasses : mg "InvalidPasses" = some (.ref 382)
  g_InvalidInputs : mg "InvalidInputs" = some (.ref 403)
  g_InvalidScript : mg "InvalidScript" = some (.ref 424)
  g_Wrong : mg "Wrong" = some (.ref 445)
  g_NotLet : mg "NotLet" = some (.ref 457)
  g_Ended : mg "Ended" = some (.ref 469)
  g_NotKept : mg "NotKept" = some (.ref 481)
  g_StopError : mg "StopError" = some (.ref 24)
  e_InvalidText : ErrAt P K mg 46 "given" (meth (top 2))
  e_InvalidProgram : ErrAt P K mg 67 "given" (meth (top 3))
  e_InvalidExpression : ErrAt P K mg 88 "given" (meth (top 4))
  e_InvalidNumber : ErrAt P K mg 109 "given" (meth (top 5))
  e_InvalidImage : ErrAt P K mg 130 "given" (meth (top 6))
  e_InvalidTable : ErrAt P K mg 151 "given" (meth (top 7))
  e_InvalidDump : ErrAt P K mg 172 "given" (meth (top 8))
  e_InvalidPoint : ErrAt P K mg 193 "given" (meth (top 9))
  e_InvalidRow : ErrAt P K mg 214 "given" (meth (top 10))
  e_InvalidFormula : ErrAt P K mg 235 "given" (meth (top 11))
  e_InvalidPacked : ErrAt P K mg 256 "given" (meth (top 12))
  e_InvalidStand : ErrAt P K mg 277 "given" (meth (top 13))
  e_InvalidCommand : ErrAt P K mg 298 "given" (meth (top 14))
  e_UnknownName : ErrAt P K mg 319 "given" (meth (top 15))
  e_TooMany : ErrAt P K mg 340 "given" (meth (top 16))
  e_NotADesk : ErrAt P K mg 361 "given" (meth (top 17))
  e_InvalidPasses : ErrAt P K mg 382 "index" (meth (top 18))
  e_InvalidInputs : ErrAt P K mg 403 "index" (meth (top 19))
  e_InvalidScript : ErrAt P K mg 424 "index" (meth (top 20))
  e_Wrong : ErrAt P K mg 445 "inputs" (meth (top 21))
  x_NotLet : PySem.W.excIn K 457 PySem.HandSPX.veTail "ValueError.__new__" = true
  k_NotLet : PySem.W.keepIn K (.ref 457) = true
  x_Ended : PySem.W.excIn K 469 PySem.HandSPX.veTail "ValueError.__new__" = true
  k_Ended : PySem.W.keepIn K (.ref 469) = true
  x_NotKept : PySem.W.excIn K 481 PySem.HandSPX.veTail "ValueError.__new__" = true
  k_NotKept : PySem.W.keepIn K (.ref 481) = true
  errB : ExcB K 24 errs
  fld_given : ∀ C ∈ errs, PySem.W.findIn K (.ref C) "given" = some none
  fld_index : ∀ C ∈ errs, PySem.W.findIn K (.ref C) "index" = some none
  fld_inputs : ∀ C ∈ errs, PySem.W.findIn K (.ref C) "inputs" = some none
section
variable {P : Program} {w : World} {K : PySem.W.Frag} {mg : Str → Option Value} {base : Heap}
theorem sc__law_well : FnScope ["script", "lap", "stirred", "cell", "own"] ["script", "lap"] (defScope (top 26)) := ⟨rfl, rfl, rfl, by decide +kernel, rfl, by decide +kernel, by decide +kernel⟩
theorem ok__law_well (m : Mf P K mg) (d : DefAt K mg "_law_well" (top 26) ["script", "lap"])  : Cal P w K mg base 1 "_law_well" ["script", "lap"] sp__law_well :=
  cal_def d sc__law_well rfl fun f cdv A fr s H E G =>
  (ds_cons (dset G 2 (de_op (o_add false) de_int (de_op o_mul de_int (dv 1))))
  (ds_cons (ds_for G (di_any (de_sl false (dv 0) do_no (do_p de_int))) (dn G 3) (ds_one (dset G 2 (de_op o_mod (de_callT c_int rfl m.b_int (da_cons (de_op (o_add false) (de_op (o_add false) (de_op o_mul (dv 2) de_int) (de_op o_mod (de_callT c_int rfl m.b_int (da_cons (dv 3) da_nil)) de_int)) de_int) da_nil)) de_int))))
  (ds_cons (dset G 4 (de_if (dt_cmp o_lt (dv 1) (de_callB c_len rfl m.b_len (da_cons (dv 0) da_nil))) (de_callT c_int rfl m.b_int (da_cons (de_ix (dv 0) (dv 1)) da_nil)) de_int))
  (ds_cons (dset G 2 (de_op o_mod (de_callT c_int rfl m.b_int (da_cons (de_op (o_add false) (de_op (o_add false) (de_op o_mul (dv 2) de_int) (de_op o_mul (de_op o_mod (de_callT c_int rfl m.b_int (da_cons (dv 4) da_nil)) de_int) de_int)) de_int) da_nil)) de_int))
  (ds_one (ds_ret (de_opn (da_cons (de_if (dt_of (dw_or (dt_cmp o_lt (dv 4) de_int) (dw_or1 (dt_cmp o_ge (dv 4) (de_op o_pow de_int de_int))))) (de_callB c_abs rfl m.b_abs (da_cons (dv 4) da_nil)) de_int) (da_cons (dv 2) (da_cons de_int da_nil))))))))))
theorem sc__law_draw : FnScope ["well", "limit", "figure", "mixed"] ["well", "limit"] (defScope (top 27)) := ⟨rfl, rfl, rfl, by decide +kernel, rfl, by decide +kernel, by decide +kernel⟩
theorem ok__law_draw (m : Mf P K mg) (d : DefAt K mg "_law_draw" (top 27) ["well", "limit"])  : Cal P w K mg base 1 "_law_draw" ["well", "limit"] sp__law_draw :=
  cal_def d sc__law_draw rfl fun f cdv A fr s H E G =>
  (ds_cons (ds_if (dt_cmp o_gt (de_ix (dv 0) de_int) de_int) (ds_cons (ds_asg (de_callB c_divm rfl m.b_divmod (da_cons (de_ix (dv 0) de_int) (da_cons (dv 1) da_nil))) (dg_tup G (dgs_cons (dg_sub (W := bw E) (dv 0) de_int s_list) (dgs_cons (dn G 2) dgs_nil))))
  (ds_one (ds_ret (dv 2)))) ds_nil)
  (ds_cons (ds_asg (de_op (o_add false) (de_ix (dv 0) de_int) de_int) (dg_sub (W := bw E) (dv 0) de_int s_list))
  (ds_cons (dset G 3 (de_op o_mod (de_callT c_int rfl m.b_int (da_cons (de_op (o_add false) (de_op o_mul (de_ix (dv 0) de_int) de_int) (de_op o_mul de_int (de_ix (dv 0) de_int))) da_nil)) de_int))
  (ds_cons (ds_asg (de_op o_mod (de_callT c_int rfl m.b_int (da_cons (de_op (o_add false) (de_op o_mul (dv 3) (de_op (o_add false) (de_op o_mod (de_callT c_int rfl m.b_int (da_cons (dv 3) da_nil)) de_int) de_int)) (de_ix (dv 0) de_int)) da_nil)) de_int) (dg_sub (W := bw E) (dv 0) de_int s_list))
  (ds_one (ds_ret (de_op o_mod (de_callT c_int rfl m.b_int (da_cons (de_op o_fdv (de_ix (dv 0) de_int) de_int) da_nil)) (dv 1))))))))
theorem sc__law_of : FnScope ["well", "some"] ["well", "some"] (defScope (top 28)) := ⟨rfl, rfl, rfl, by decide +kernel, rfl, by decide +kernel, by decide +kernel⟩
theorem ok__law_of (m : Mf P K mg) (d : DefAt K mg "_law_of" (top 28) ["well", "some"]) (c__law_draw : Cal P w K mg base 1 "_law_draw" ["well", "limit"] sp__law_draw) : Cal P w K mg base 2 "_law_of" ["well", "some"] sp__law_of :=
  cal_def d sc__law_of rfl fun f cdv A fr s H E G =>
  (ds_one (ds_ret (de_ix (dv 1) (de_call G c__law_draw (da_cons (dv 0) (da_cons (de_callB c_len rfl m.b_len (da_cons (dv 1) da_nil)) da_nil))))))
theorem sc__law_is : FnScope ["told", "due"] ["told", "due"] (defScope (top 29)) := ⟨rfl, rfl, rfl, by decide +kernel, rfl, by decide +kernel, by decide +kernel⟩
theorem ok__law_is (m : Mf P K mg) (d : DefAt K mg "_law_is" (top 29) ["told", "due"])  : Cal P w K mg base 1 "_law_is" ["told", "due"] sp__law_is :=
  cal_def d sc__law_is rfl fun f cdv A fr s H E G =>
  (ds_one (ds_ret (de_cmp (o_eq G.u64) (de_callB (c_repr1 G) rfl m.b_repr (da_cons (dv 0) da_nil)) (de_callB (c_repr1 G) rfl m.b_repr (da_cons (dv 1) da_nil)))))
theorem sc__law_given : FnScope [] [] (defScope (top 30)) := ⟨rfl, rfl, rfl, by decide +kernel, rfl, by decide +kernel, by decide +kernel⟩
theorem ok__law_given (m : Mf P K mg) (d : DefAt K mg "_law_given" (top 30) [])  : Cal P w K mg base 1 "_law_given" [] sp__law_given :=
  cal_def d sc__law_given rfl fun f cdv A fr s H E G =>
  (ds_one (ds_ret (de_lst (da_cons de_str (da_cons de_str (da_cons de_str (da_cons de_str (da_cons de_str (da_cons de_str (da_cons de_str (da_cons de_str (da_cons de_str (da_cons de_str (da_cons de_str (da_cons de_str (da_cons de_str (da_cons de_str (da_cons de_str (da_cons de_str da_nil)))))))))))))))))))
theorem sc__law_index : FnScope [] [] (defScope (top 31)) := ⟨rfl, rfl, rfl, by decide +kernel, rfl, by decide +kernel, by decide +kernel⟩
theorem ok__law_index (m : Mf P K mg) (d : DefAt K mg "_law_index" (top 31) [])  : Cal P w K mg base 1 "_law_index" [] sp__law_index :=
  cal_def d sc__law_index rfl fun f cdv A fr s H E G =>
  (ds_one (ds_ret (de_lst (da_cons de_str (da_cons de_str (da_cons de_str da_nil))))))
theorem sc__law_value : FnScope ["well", "some"] ["well"] (defScope (top 32)) := ⟨rfl, rfl, rfl, by decide +kernel, rfl, by decide +kernel, by decide +kernel⟩
theorem ok__law_value (m : Mf P K mg) (d : DefAt K mg "_law_value" (top 32) ["well"]) (c__law_of : Cal P w K mg base 2 "_law_of" ["well", "some"] sp__law_of) : Cal P w K mg base 3 "_law_value" ["well"] sp__law_value :=
  cal_def d sc__law_value rfl fun f cdv A fr s H E G =>
  (ds_cons (dset G 1 (de_tup (da_cons de_non (da_cons de_bl (da_cons de_bl (da_cons de_int (da_cons (de_neg de_int) (da_cons de_int (da_cons (de_op o_pow de_int de_int) (da_cons de_str (da_cons de_str (da_cons de_str (da_cons (de_tup da_nil) (da_cons (de_tup (da_cons de_int (da_cons (de_tup (da_cons de_str da_nil)) da_nil))) (da_cons (de_lst da_nil) (da_cons de_e0 (da_cons (de_lst (da_cons de_str da_nil)) (da_cons (de_dsp false (dps_cons de_str de_int dps_nil)) da_nil))))))))))))))))))
  (ds_one (ds_ret (de_call G c__law_of (da_cons (dv 0) (da_cons (de_op (o_add false) (dv 1) (de_tup (da_cons (de_tup (da_cons de_non (da_cons de_bl da_nil))) da_nil))) da_nil))))))
theorem sc__law_made_a : FnScope ["word", "value", "is_named"] ["word", "value", "is_named"] (defScope (top 33)) := ⟨rfl, rfl, rfl, by decide +kernel, rfl, by decide +kernel, by decide +kernel⟩
theorem ok__law_made_a (m : Mf P K mg) (d : DefAt K mg "_law_made_a" (top 33) ["word", "value", "is_named"])  : Cal P w K mg base 2 "_law_made_a" ["word", "value", "is_named"] sp__law_made_a :=
  cal_def d sc__law_made_a rfl fun f cdv A fr s H E G =>
  (ds_cons (ds_if (dt_cmp (o_eq G.u64) (dv 0) de_str) (ds_one (ds_ret (de_if (dt_tru (dv 2)) (de_errK G m.e_InvalidText m.g_InvalidText (dv 1)) (de_err G m.e_InvalidText m.g_InvalidText (dv 1))))) ds_nil)
  (ds_cons (ds_if (dt_cmp (o_eq G.u64) (dv 0) de_str) (ds_one (ds_ret (de_if (dt_tru (dv 2)) (de_errK G m.e_InvalidProgram m.g_InvalidProgram (dv 1)) (de_err G m.e_InvalidProgram m.g_InvalidProgram (dv 1))))) ds_nil)
  (ds_cons (ds_if (dt_cmp (o_eq G.u64) (dv 0) de_str) (ds_one (ds_ret (de_if (dt_tru (dv 2)) (de_errK G m.e_InvalidExpression m.g_InvalidExpression (dv 1)) (de_err G m.e_InvalidExpression m.g_InvalidExpression (dv 1))))) ds_nil)
  (ds_cons (ds_if (dt_cmp (o_eq G.u64) (dv 0) de_str) (ds_one (ds_ret (de_if (dt_tru (dv 2)) (de_errK G m.e_InvalidNumber m.g_InvalidNumber (dv 1)) (de_err G m.e_InvalidNumber m.g_InvalidNumber (dv 1))))) ds_nil)
  (ds_cons (ds_if (dt_cmp (o_eq G.u64) (dv 0) de_str) (ds_one (ds_ret (de_if (dt_tru (dv 2)) (de_errK G m.e_InvalidImage m.g_InvalidImage (dv 1)) (de_err G m.e_InvalidImage m.g_InvalidImage (dv 1))))) ds_nil)
  (ds_cons (ds_if (dt_cmp (o_eq G.u64) (dv 0) de_str) (ds_one (ds_ret (de_if (dt_tru (dv 2)) (de_errK G m.e_InvalidTable m.g_InvalidTable (dv 1)) (de_err G m.e_InvalidTable m.g_InvalidTable (dv 1))))) ds_nil)
  (ds_cons (ds_if (dt_cmp (o_eq G.u64) (dv 0) de_str) (ds_one (ds_ret (de_if (dt_tru (dv 2)) (de_errK G m.e_InvalidDump m.g_InvalidDump (dv 1)) (de_err G m.e_InvalidDump m.g_InvalidDump (dv 1))))) ds_nil)
  (ds_cons (ds_if (dt_cmp (o_eq G.u64) (dv 0) de_str) (ds_one (ds_ret (de_if (dt_tru (dv 2)) (de_errK G m.e_InvalidPoint m.g_InvalidPoint (dv 1)) (de_err G m.e_InvalidPoint m.g_InvalidPoint (dv 1))))) ds_nil)
  (ds_cons (ds_if (dt_cmp (o_eq G.u64) (dv 0) de_str) (ds_one (ds_ret (de_if (dt_tru (dv 2)) (de_errK G m.e_InvalidRow m.g_InvalidRow (dv 1)) (de_err G m.e_InvalidRow m.g_InvalidRow (dv 1))))) ds_nil)
  (ds_cons (ds_if (dt_cmp (o_eq G.u64) (dv 0) de_str) (ds_one (ds_ret (de_if (dt_tru (dv 2)) (de_errK G m.e_InvalidFormula m.g_InvalidFormula (dv 1)) (de_err G m.e_InvalidFormula m.g_InvalidFormula (dv 1))))) ds_nil)
  (ds_cons (ds_if (dt_cmp (o_eq G.u64) (dv 0) de_str) (ds_one (ds_ret (de_if (dt_tru (dv 2)) (de_errK G m.e_InvalidPacked m.g_InvalidPacked (dv 1)) (de_err G m.e_InvalidPacked m.g_InvalidPacked (dv 1))))) ds_nil)
  (ds_cons (ds_if (dt_cmp (o_eq G.u64) (dv 0) de_str) (ds_one (ds_ret (de_if (dt_tru (dv 2)) (de_errK G m.e_InvalidStand m.g_InvalidStand (dv 1)) (de_err G m.e_InvalidStand m.g_InvalidStand (dv 1))))) ds_nil)
  (ds_cons (ds_if (dt_cmp (o_eq G.u64) (dv 0) de_str) (ds_one (ds_ret (de_if (dt_tru (dv 2)) (de_errK G m.e_InvalidCommand m.g_InvalidCommand (dv 1)) (de_err G m.e_InvalidCommand m.g_InvalidCommand (dv 1))))) ds_nil)
  (ds_cons (ds_if (dt_cmp (o_eq G.u64) (dv 0) de_str) (ds_one (ds_ret (de_if (dt_tru (dv 2)) (de_errK G m.e_UnknownName m.g_UnknownName (dv 1)) (de_err G m.e_UnknownName m.g_UnknownName (dv 1))))) ds_nil)
  (ds_cons (ds_if (dt_cmp (o_eq G.u64) (dv 0) de_str) (ds_one (ds_ret (de_if (dt_tru (dv 2)) (de_errK G m.e_TooMany m.g_TooMany (dv 1)) (de_err G m.e_TooMany m.g_TooMany (dv 1))))) ds_nil)
  (ds_cons (ds_if (dt_cmp (o_eq G.u64) (dv 0) de_str) (ds_one (ds_ret (de_if (dt_tru (dv 2)) (de_errK G m.e_NotADesk m.g_NotADesk (dv 1)) (de_err G m.e_NotADesk m.g_NotADesk (dv 1))))) ds_nil)
  (ds_cons (ds_if (dt_cmp (o_eq G.u64) (dv 0) de_str) (ds_one (ds_ret (de_if (dt_tru (dv 2)) (de_errK G m.e_InvalidPasses m.g_InvalidPasses (dv 1)) (de_err G m.e_InvalidPasses m.g_InvalidPasses (dv 1))))) ds_nil)
  (ds_one (ds_ret de_non)))))))))))))))))))
theorem sc__law_made_b : FnScope ["word", "value", "is_named"] ["word", "value", "is_named"] (defScope (top 34)) := ⟨rfl, rfl, rfl, by decide +kernel, rfl, by decide +kernel, by decide +kernel⟩
theorem ok__law_made_b (m : Mf P K mg) (d : DefAt K mg "_law_made_b" (top 34) ["word", "value", "is_named"])  : Cal P w K mg base 2 "_law_made_b" ["word", "value", "is_named"] sp__law_made_b :=
  cal_def d sc__law_made_b rfl fun f cdv A fr s H E G =>
  (ds_cons (ds_if (dt_cmp (o_eq G.u64) (dv 0) de_str) (ds_one (ds_ret (de_if (dt_tru (dv 2)) (de_errK G m.e_InvalidInputs m.g_InvalidInputs (dv 1)) (de_err G m.e_InvalidInputs m.g_InvalidInputs (dv 1))))) ds_nil)
  (ds_cons (ds_if (dt_cmp (o_eq G.u64) (dv 0) de_str) (ds_one (ds_ret (de_if (dt_tru (dv 2)) (de_errK G m.e_InvalidScript m.g_InvalidScript (dv 1)) (de_err G m.e_InvalidScript m.g_InvalidScript (dv 1))))) ds_nil)
  (ds_cons (ds_if (dt_cmp (o_eq G.u64) (dv 0) de_str) (ds_one (ds_ret (de_if (dt_tru (dv 2)) (de_errK G m.e_Wrong m.g_Wrong (dv 1)) (de_err G m.e_Wrong m.g_Wrong (dv 1))))) ds_nil)
  (ds_one (ds_ret de_non)))))
theorem sc__law_made : FnScope ["word", "value", "is_named", "found"] ["word", "value", "is_named"] (defScope (top 35)) := ⟨rfl, rfl, rfl, by decide +kernel, rfl, by decide +kernel, by decide +kernel⟩
theorem ok__law_made (m : Mf P K mg) (d : DefAt K mg "_law_made" (top 35) ["word", "value", "is_named"]) (c__law_made_a : Cal P w K mg base 2 "_law_made_a" ["word", "value", "is_named"] sp__law_made_a) (c__law_made_b : Cal P w K mg base 2 "_law_made_b" ["word", "value", "is_named"] sp__law_made_b) : Cal P w K mg base 3 "_law_made" ["word", "value", "is_named"] sp__law_made :=
  cal_def d sc__law_made rfl fun f cdv A fr s H E G =>
  (ds_cons (dset G 3 (de_call G c__law_made_a (da_cons (dv 0) (da_cons (dv 1) (da_cons (dv 2) da_nil)))))
  (ds_cons (dset G 3 (de_if (dt_cmp o_isN (dv 3) de_non) (de_call G c__law_made_b (da_cons (dv 0) (da_cons (dv 1) (da_cons (dv 2) da_nil)))) (dv 3)))
  (ds_one (ds_ret (dv 3)))))
theorem sc__law_kinds_a : FnScope ["e", "found"] ["e"] (defScope (top 36)) := ⟨rfl, rfl, rfl, by decide +kernel, rfl, by decide +kernel, by decide +kernel⟩
theorem ok__law_kinds_a (m : Mf P K mg) (d : DefAt K mg "_law_kinds_a" (top 36) ["e"])  : Cal P w K mg base 2 "_law_kinds_a" ["e"] sp__law_kinds_a :=
  cal_def d sc__law_kinds_a rfl fun f cdv A fr s H E G =>
  (ds_cons (dset G 1 (de_if (dt_tru (de_callB (c_isx m.errB) rfl m.b_isinstance (da_cons (dv 0) (da_cons (dgl m.g_InvalidText) da_nil)))) (de_lst (da_cons de_str da_nil)) (de_lst da_nil)))
  (ds_cons (dset G 1 (de_op (o_add false) (dv 1) (de_if (dt_tru (de_callB (c_isx m.errB) rfl m.b_isinstance (da_cons (dv 0) (da_cons (dgl m.g_InvalidProgram) da_nil)))) (de_lst (da_cons de_str da_nil)) (de_lst da_nil))))
  (ds_cons (dset G 1 (de_op (o_add false) (dv 1) (de_if (dt_tru (de_callB (c_isx m.errB) rfl m.b_isinstance (da_cons (dv 0) (da_cons (dgl m.g_InvalidExpression) da_nil)))) (de_lst (da_cons de_str da_nil)) (de_lst da_nil))))
  (ds_cons (dset G 1 (de_op (o_add false) (dv 1) (de_if (dt_tru (de_callB (c_isx m.errB) rfl m.b_isinstance (da_cons (dv 0) (da_cons (dgl m.g_InvalidNumber) da_nil)))) (de_lst (da_cons de_str da_nil)) (de_lst da_nil))))
  (ds_cons (dset G 1 (de_op (o_add false) (dv 1) (de_if (dt_tru (de_callB (c_isx m.errB) rfl m.b_isinstance (da_cons (dv 0) (da_cons (dgl m.g_InvalidImage) da_nil)))) (de_lst (da_cons de_str da_nil)) (de_lst da_nil))))
  (ds_cons (dset G 1 (de_op (o_add false) (dv 1) (de_if (dt_tru (de_callB (c_isx m.errB) rfl m.b_isinstance (da_cons (dv 0) (da_cons (dgl m.g_InvalidTable) da_nil)))) (de_lst (da_cons de_str da_nil)) (de_lst da_nil))))
  (ds_cons (dset G 1 (de_op (o_add false) (dv 1) (de_if (dt_tru (de_callB (c_isx m.errB) rfl m.b_isinstance (da_cons (dv 0) (da_cons (dgl m.g_InvalidDump) da_nil)))) (de_lst (da_cons de_str da_nil)) (de_lst da_nil))))
  (ds_cons (dset G 1 (de_op (o_add false) (dv 1) (de_if (dt_tru (de_callB (c_isx m.errB) rfl m.b_isinstance (da_cons (dv 0) (da_cons (dgl m.g_InvalidPoint) da_nil)))) (de_lst (da_cons de_str da_nil)) (de_lst da_nil))))
  (ds_cons (dset G 1 (de_op (o_add false) (dv 1) (de_if (dt_tru (de_callB (c_isx m.errB) rfl m.b_isinstance (da_cons (dv 0) (da_cons (dgl m.g_InvalidRow) da_nil)))) (de_lst (da_cons de_str da_nil)) (de_lst da_nil))))
  (ds_cons (dset G 1 (de_op (o_add false) (dv 1) (de_if (dt_tru (de_callB (c_isx m.errB) rfl m.b_isinstance (da_cons (dv 0) (da_cons (dgl m.g_InvalidFormula) da_nil)))) (de_lst (da_cons de_str da_nil)) (de_lst da_nil))))
  (ds_cons (dset G 1 (de_op (o_add false) (dv 1) (de_if (dt_tru (de_callB (c_isx m.errB) rfl m.b_isinstance (da_cons (dv 0) (da_cons (dgl m.g_InvalidPacked) da_nil)))) (de_lst (da_cons de_str da_nil)) (de_lst da_nil))))
  (ds_cons (dset G 1 (de_op (o_add false) (dv 1) (de_if (dt_tru (de_callB (c_isx m.errB) rfl m.b_isinstance (da_cons (dv 0) (da_cons (dgl m.g_InvalidStand) da_nil)))) (de_lst (da_cons de_str da_nil)) (de_lst da_nil))))
  (ds_cons (dset G 1 (de_op (o_add false) (dv 1) (de_if (dt_tru (de_callB (c_isx m.errB) rfl m.b_isinstance (da_cons (dv 0) (da_cons (dgl m.g_InvalidCommand) da_nil)))) (de_lst (da_cons de_str da_nil)) (de_lst da_nil))))
  (ds_cons (dset G 1 (de_op (o_add false) (dv 1) (de_if (dt_tru (de_callB (c_isx m.errB) rfl m.b_isinstance (da_cons (dv 0) (da_cons (dgl m.g_UnknownName) da_nil)))) (de_lst (da_cons de_str da_nil)) (de_lst da_nil))))
  (ds_cons (dset G 1 (de_op (o_add false) (dv 1) (de_if (dt_tru (de_callB (c_isx m.errB) rfl m.b_isinstance (da_cons (dv 0) (da_cons (dgl m.g_TooMany) da_nil)))) (de_lst (da_cons de_str da_nil)) (de_lst da_nil))))
  (ds_cons (dset G 1 (de_op (o_add false) (dv 1) (de_if (dt_tru (de_callB (c_isx m.errB) rfl m.b_isinstance (da_cons (dv 0) (da_cons (dgl m.g_NotADesk) da_nil)))) (de_lst (da_cons de_str da_nil)) (de_lst da_nil))))
  (ds_cons (dset G 1 (de_op (o_add false) (dv 1) (de_if (dt_tru (de_callB (c_isx m.errB) rfl m.b_isinstance (da_cons (dv 0) (da_cons (dgl m.g_InvalidPasses) da_nil)))) (de_lst (da_cons de_str da_nil)) (de_lst da_nil))))
  (ds_cons (dset G 1 (de_op (o_add false) (dv 1) (de_if (dt_tru (de_callB (c_isx m.errB) rfl m.b_isinstance (da_cons (dv 0) (da_cons (dgl m.g_InvalidInputs) da_nil)))) (de_lst (da_cons de_str da_nil)) (de_lst da_nil))))
  (ds_cons (dset G 1 (de_op (o_add false) (dv 1) (de_if (dt_tru (de_callB (c_isx m.errB) rfl m.b_isinstance (da_cons (dv 0) (da_cons (dgl m.g_InvalidScript) da_nil)))) (de_lst (da_cons de_str da_nil)) (de_lst da_nil))))
  (ds_cons (dset G 1 (de_op (o_add false) (dv 1) (de_if (dt_tru (de_callB (c_isx m.errB) rfl m.b_isinstance (da_cons (dv 0) (da_cons (dgl m.g_NotLet) da_nil)))) (de_lst (da_cons de_str da_nil)) (de_lst da_nil))))
  (ds_one (ds_ret (dv 1)))))))))))))))))))))))
theorem sc__law_kinds_b : FnScope ["e", "found"] ["e"] (defScope (top 37)) := ⟨rfl, rfl, rfl, by decide +kernel, rfl, by decide +kernel, by decide +kernel⟩
theorem ok__law_kinds_b (m : Mf P K mg) (d : DefAt K mg "_law_kinds_b" (top 37) ["e"])  : Cal P w K mg base 2 "_law_kinds_b" ["e"] sp__law_kinds_b :=
  cal_def d sc__law_kinds_b rfl fun f cdv A fr s H E G =>
  (ds_cons (dset G 1 (de_if (dt_tru (de_callB (c_isx m.errB) rfl m.b_isinstance (da_cons (dv 0) (da_cons (dgl m.g_Ended) da_nil)))) (de_lst (da_cons de_str da_nil)) (de_lst da_nil)))
  (ds_cons (dset G 1 (de_op (o_add false) (dv 1) (de_if (dt_tru (de_callB (c_isx m.errB) rfl m.b_isinstance (da_cons (dv 0) (da_cons (dgl m.g_NotKept) da_nil)))) (de_lst (da_cons de_str da_nil)) (de_lst da_nil))))
  (ds_cons (dset G 1 (de_op (o_add false) (dv 1) (de_if (dt_tru (de_callB (c_isx m.errB) rfl m.b_isinstance (da_cons (dv 0) (da_cons (dgl m.g_Wrong) da_nil)))) (de_lst (da_cons de_str da_nil)) (de_lst da_nil))))
  (ds_one (ds_ret (dv 1))))))
theorem sc__law_is_own : FnScope ["e", "word", "others", "found"] ["e", "word"] (defScope (top 38)) := ⟨rfl, rfl, rfl, by decide +kernel, rfl, by decide +kernel, by decide +kernel⟩
theorem ok__law_is_own (m : Mf P K mg) (d : DefAt K mg "_law_is_own" (top 38) ["e", "word"]) (c__law_kinds_a : Cal P w K mg base 2 "_law_kinds_a" ["e"] sp__law_kinds_a) (c__law_kinds_b : Cal P w K mg base 2 "_law_kinds_b" ["e"] sp__law_kinds_b) (c__law_is : Cal P w K mg base 1 "_law_is" ["told", "due"] sp__law_is) : Cal P w K mg base 3 "_law_is_own" ["e", "word"] sp__law_is_own :=
  cal_def d sc__law_is_own rfl fun f cdv A fr s H E G =>
  (ds_cons (dset G 2 (de_callB (c_isx m.errB) rfl m.b_isinstance (da_cons (dv 0) (da_cons (de_tup (da_cons (de_type rfl m.b_TypeError) (da_cons (de_type rfl m.b_LookupError) (da_cons (de_type rfl m.b_ArithmeticError) (da_cons (de_type rfl m.b_AttributeError) (da_cons (de_type rfl m.b_RuntimeError) da_nil)))))) da_nil))))
  (ds_cons (dset G 3 (de_op (o_add false) (de_call G c__law_kinds_a (da_cons (dv 0) da_nil)) (de_call G c__law_kinds_b (da_cons (dv 0) da_nil))))
  (ds_one (ds_ret (de_call G c__law_is (da_cons (de_lst (da_cons (dv 3) (da_cons (de_callB (c_isx m.errB) rfl m.b_isinstance (da_cons (dv 0) (da_cons (dgl m.g_StopError) da_nil))) (da_cons (de_callB (c_isx m.errB) rfl m.b_isinstance (da_cons (dv 0) (da_cons (de_type rfl m.b_ValueError) da_nil))) (da_cons (dv 2) da_nil))))) (da_cons (de_lst (da_cons (de_lst (da_cons (dv 1) da_nil)) (da_cons de_bl (da_cons de_bl (da_cons de_bl da_nil))))) da_nil)))))))
theorem sc__law_right : FnScope ["well", "word", "is_named", "value", "e", "kept"] ["well"] (defScope (top 39)) := ⟨rfl, rfl, rfl, by decide +kernel, rfl, by decide +kernel, by decide +kernel⟩
theorem ok__law_right (m : Mf P K mg) (d : DefAt K mg "_law_right" (top 39) ["well"]) (c__law_given : Cal P w K mg base 1 "_law_given" [] sp__law_given) (c__law_index : Cal P w K mg base 1 "_law_index" [] sp__law_index) (c__law_value : Cal P w K mg base 3 "_law_value" ["well"] sp__law_value) (c__law_made : Cal P w K mg base 3 "_law_made" ["word", "value", "is_named"] sp__law_made) (c__law_is : Cal P w K mg base 1 "_law_is" ["told", "due"] sp__law_is) (c__law_is_own : Cal P w K mg base 3 "_law_is_own" ["e", "word"] sp__law_is_own) : Cal P w K mg base 4 "_law_right" ["well"] sp__law_right :=
  cal_def d sc__law_right rfl fun f cdv A fr s H E G =>
  (ds_cons (ds_for G (di_any (de_op (o_add false) (de_op (o_add false) (de_call0 G c__law_given) (de_call0 G c__law_index)) (de_lst (da_cons de_str da_nil)))) (dn G 1) (ds_one (ds_for G (di_any (de_tup (da_cons de_bl (da_cons de_bl da_nil)))) (dn G 2) (ds_cons (dset G 3 (de_call G c__law_value (da_cons (dv 0) da_nil)))
  (ds_cons (dset G 4 (de_call G c__law_made (da_cons (dv 1) (da_cons (dv 3) (da_cons (dv 2) da_nil)))))
  (ds_cons (dset G 5 (de_if (dt_cmp o_in (dv 1) (de_call0 G c__law_given)) (de_fld m.errB m.fld_given (dv 4)) (de_if (dt_cmp (o_eq G.u64) (dv 1) de_str) (de_fld m.errB m.fld_inputs (dv 4)) (de_fld m.errB m.fld_index (dv 4)))))
  (ds_one (ds_if (dt_of (dw_or (dt_not (dt_tru (de_call G c__law_is (da_cons (dv 5) (da_cons (dv 3) da_nil))))) (dw_or1 (dt_not (dt_tru (de_call G c__law_is_own (da_cons (dv 4) (da_cons (dv 1) da_nil)))))))) (ds_one (ds_ret de_bl)) ds_nil))))))))
  (ds_one (ds_ret (de_and (de_call G c__law_is_own (da_cons (de_err0 m.x_NotLet m.k_NotLet m.g_NotLet) (da_cons de_str da_nil))) (de_and (de_call G c__law_is_own (da_cons (de_err0 m.x_Ended m.k_Ended m.g_Ended) (da_cons de_str da_nil))) (de_one (de_call G c__law_is_own (da_cons (de_err0 m.x_NotKept m.k_NotKept m.g_NotKept) (da_cons de_str da_nil)))))))))
theorem sc_law : FnScope ["script", "lap"] ["script"] (defScope (top 40)) := ⟨rfl, rfl, rfl, by decide +kernel, rfl, by decide +kernel, by decide +kernel⟩
/-- the walk of the law's def -/
theorem wk_law (m : Mf P K mg) (c__law_right : Cal P w K mg base 4 "_law_right" ["well"] sp__law_right) (c__law_well : Cal P w K mg base 1 "_law_well" ["script", "lap"] sp__law_well) (f : Addr) (cdv : Value) (A : Around) (fr : List Env) (s : Shared) (H : Hp) (E : XK) (G : Good (bx P w K mg base ["script", "lap"] "law" (top 40) f cdv A fr s H E) 4 (bw E)) :
    DSs (bx P w K mg base ["script", "lap"] "law" (top 40) f cdv A fr s H E) (bw E) (defBody (top 40)) t_law :=
  (ds_one (ds_ret (de_callB (c_all G.calm) rfl m.b_all (da_cons (de_lc (own := [("lap", 1)]) false G (di_rng1 m.b_range (da_cons (de_callB (c_max G.calm) rfl m.b_max (da_cons de_int (da_cons (de_callB (c_min G.calm) rfl m.b_min (da_cons (de_callB c_len rfl m.b_len (da_cons (dv 0) da_nil)) (da_cons de_int da_nil))) da_nil))) da_nil)) (DL.blkB_ok (by with_unfolding_all rfl)) (own_name 1 G _) (fun _ _ _ _ _ => dts_nil) (fun _ _ _ _ _ => (de_call (Good.blk G) c__law_right (da_cons (de_call (Good.blk G) c__law_well (da_cons (dv 0) (da_cons (dv 1) da_nil))) da_nil)))) da_nil))))
end
end K01
end

section
set_option Elab.async false
set_option linter.all false
set_option maxRecDepth 100000
set_option maxHeartbeats 2000000
namespace K01
open PySem PySem.Spec L2 DL
open PyProof.Rows hiding St
theorem draw_ok {p : Addr} {a b c n : Int} {ω : Sto} {Q : DQ} {E : DX} (h : ω p = some (.lst [.int a, .int b, .int c])) (h0 : 0 < n) (h1 : n < 1073741824)
    (hq : ∀ i a' b' c' ω', 0 ≤ i → i < n → ω' p = some (.lst [.int a', .int b', .int c']) → Beside p ω ω' → Q (.int i) ω') : sp__law_draw [.ref p, .int n] ω Q E := by
  ((unfold sp__law_draw; (simp (config := { decide := false }) only [spB, beg, List.length_cons, List.length_nil, List.map_cons, List.map_nil, List.cons_append, List.nil_append, Nat.reduceAdd, Nat.reduceSub, Nat.sub_self, List.replicate_succ, List.replicate_zero, List.append_nil, true_and]); unfold t__law_draw; (simp (config := { decide := false }) only [↓dSeq, ↓dIfS, ↓dTst, ↓dOp, ↓dVar, ↓dK, ↓dCons, ↓dNil, ↓dCall, ↓dCl, ↓dAsg, ↓gN, ↓gT, ↓gsCons, ↓gsNil, ↓gSb, ↓dRet, ↓dNx, ↓dIf, ↓dTup, ↓dLst, ↓dOpn, ↓dTru, ↓dAnd, ↓dOr, ↓dNot, ↓dExp, ↓xk_at, ↓nx_at, ↓rt_at, ↓dNeg, ↓dE0, ↓dPrs, ↓dErr, ↓dEx0, ↓dAndV, ↓dOrV, ↓dNotV, fin, oGt, oLt, oGe, oLe, oMod, oMul, oSub, oFdv, oPow, oDivm, oAbs, oMax, oMin, r_int, r_bl, r_str, r_non, r_tup, r_lst, r_scr, r_dic, r_exn, w_add, w_oI, w_cmp, w_i1, w_i2, w_int, w_nl0, w_isN, w_notN, truB, List.map_cons, List.map_nil, List.length_cons, List.length_nil, List.cons_append, List.nil_append, List.getElem?_cons_zero, List.getElem?_cons_succ, List.set_cons_zero, List.set_cons_succ, List.append_nil, Nat.reduceAdd, Nat.reduceSub, true_and, and_true, DL.isNon, Bool.false_eq_true, ↓reduceIte, Bool.not_true, Bool.not_false])))
  refine x_ix (r_ref h) at0 ?_
  (simp (config := { decide := false }) only [↓dSeq, ↓dIfS, ↓dTst, ↓dOp, ↓dVar, ↓dK, ↓dCons, ↓dNil, ↓dCall, ↓dCl, ↓dAsg, ↓gN, ↓gT, ↓gsCons, ↓gsNil, ↓gSb, ↓dRet, ↓dNx, ↓dIf, ↓dTup, ↓dLst, ↓dOpn, ↓dTru, ↓dAnd, ↓dOr, ↓dNot, ↓dExp, ↓xk_at, ↓nx_at, ↓rt_at, ↓dNeg, ↓dE0, ↓dPrs, ↓dErr, ↓dEx0, ↓dAndV, ↓dOrV, ↓dNotV, fin, oGt, oLt, oGe, oLe, oMod, oMul, oSub, oFdv, oPow, oDivm, oAbs, oMax, oMin, r_int, r_bl, r_str, r_non, r_tup, r_lst, r_scr, r_dic, r_exn, w_add, w_oI, w_cmp, w_i1, w_i2, w_int, w_nl0, w_isN, w_notN, truB, List.map_cons, List.map_nil, List.length_cons, List.length_nil, List.cons_append, List.nil_append, List.getElem?_cons_zero, List.getElem?_cons_succ, List.set_cons_zero, List.set_cons_succ, List.append_nil, Nat.reduceAdd, Nat.reduceSub, true_and, and_true, DL.isNon, Bool.false_eq_true, ↓reduceIte, Bool.not_true, Bool.not_false])
  split
  · refine x_ix (r_ref h) at0 ?_
    (simp (config := { decide := false }) only [↓dSeq, ↓dIfS, ↓dTst, ↓dOp, ↓dVar, ↓dK, ↓dCons, ↓dNil, ↓dCall, ↓dCl, ↓dAsg, ↓gN, ↓gT, ↓gsCons, ↓gsNil, ↓gSb, ↓dRet, ↓dNx, ↓dIf, ↓dTup, ↓dLst, ↓dOpn, ↓dTru, ↓dAnd, ↓dOr, ↓dNot, ↓dExp, ↓xk_at, ↓nx_at, ↓rt_at, ↓dNeg, ↓dE0, ↓dPrs, ↓dErr, ↓dEx0, ↓dAndV, ↓dOrV, ↓dNotV, fin, oGt, oLt, oGe, oLe, oMod, oMul, oSub, oFdv, oPow, oDivm, oAbs, oMax, oMin, r_int, r_bl, r_str, r_non, r_tup, r_lst, r_scr, r_dic, r_exn, w_add, w_oI, w_cmp, w_i1, w_i2, w_int, w_nl0, w_isN, w_notN, truB, List.map_cons, List.map_nil, List.length_cons, List.length_nil, List.cons_append, List.nil_append, List.getElem?_cons_zero, List.getElem?_cons_succ, List.set_cons_zero, List.set_cons_succ, List.append_nil, Nat.reduceAdd, Nat.reduceSub, true_and, and_true, DL.isNon, Bool.false_eq_true, ↓reduceIte, Bool.not_true, Bool.not_false])
    refine ⟨⟨h0, h1⟩, ?_⟩
    rw [w_sL0 h]
    exact hq _ _ _ _ _ (Int.emod_nonneg _ (by omega)) (Int.emod_lt_of_pos _ h0) put_same Beside.put
  · refine x_ix (r_ref h) at2 ?_
    (simp (config := { decide := false }) only [↓dSeq, ↓dIfS, ↓dTst, ↓dOp, ↓dVar, ↓dK, ↓dCons, ↓dNil, ↓dCall, ↓dCl, ↓dAsg, ↓gN, ↓gT, ↓gsCons, ↓gsNil, ↓gSb, ↓dRet, ↓dNx, ↓dIf, ↓dTup, ↓dLst, ↓dOpn, ↓dTru, ↓dAnd, ↓dOr, ↓dNot, ↓dExp, ↓xk_at, ↓nx_at, ↓rt_at, ↓dNeg, ↓dE0, ↓dPrs, ↓dErr, ↓dEx0, ↓dAndV, ↓dOrV, ↓dNotV, fin, oGt, oLt, oGe, oLe, oMod, oMul, oSub, oFdv, oPow, oDivm, oAbs, oMax, oMin, r_int, r_bl, r_str, r_non, r_tup, r_lst, r_scr, r_dic, r_exn, w_add, w_oI, w_cmp, w_i1, w_i2, w_int, w_nl0, w_isN, w_notN, truB, List.map_cons, List.map_nil, List.length_cons, List.length_nil, List.cons_append, List.nil_append, List.getElem?_cons_zero, List.getElem?_cons_succ, List.set_cons_zero, List.set_cons_succ, List.append_nil, Nat.reduceAdd, Nat.reduceSub, true_and, and_true, DL.isNon, Bool.false_eq_true, ↓reduceIte, Bool.not_true, Bool.not_false])
    rw [w_sL2 h]
    refine x_ix r_put at1 ?_
    (simp (config := { decide := false }) only [↓dSeq, ↓dIfS, ↓dTst, ↓dOp, ↓dVar, ↓dK, ↓dCons, ↓dNil, ↓dCall, ↓dCl, ↓dAsg, ↓gN, ↓gT, ↓gsCons, ↓gsNil, ↓gSb, ↓dRet, ↓dNx, ↓dIf, ↓dTup, ↓dLst, ↓dOpn, ↓dTru, ↓dAnd, ↓dOr, ↓dNot, ↓dExp, ↓xk_at, ↓nx_at, ↓rt_at, ↓dNeg, ↓dE0, ↓dPrs, ↓dErr, ↓dEx0, ↓dAndV, ↓dOrV, ↓dNotV, fin, oGt, oLt, oGe, oLe, oMod, oMul, oSub, oFdv, oPow, oDivm, oAbs, oMax, oMin, r_int, r_bl, r_str, r_non, r_tup, r_lst, r_scr, r_dic, r_exn, w_add, w_oI, w_cmp, w_i1, w_i2, w_int, w_nl0, w_isN, w_notN, truB, List.map_cons, List.map_nil, List.length_cons, List.length_nil, List.cons_append, List.nil_append, List.getElem?_cons_zero, List.getElem?_cons_succ, List.set_cons_zero, List.set_cons_succ, List.append_nil, Nat.reduceAdd, Nat.reduceSub, true_and, and_true, DL.isNon, Bool.false_eq_true, ↓reduceIte, Bool.not_true, Bool.not_false])
    refine ⟨.inr ⟨by decide, by decide⟩, ?_⟩
    refine x_ix r_put at2 ?_
    (simp (config := { decide := false }) only [↓dSeq, ↓dIfS, ↓dTst, ↓dOp, ↓dVar, ↓dK, ↓dCons, ↓dNil, ↓dCall, ↓dCl, ↓dAsg, ↓gN, ↓gT, ↓gsCons, ↓gsNil, ↓gSb, ↓dRet, ↓dNx, ↓dIf, ↓dTup, ↓dLst, ↓dOpn, ↓dTru, ↓dAnd, ↓dOr, ↓dNot, ↓dExp, ↓xk_at, ↓nx_at, ↓rt_at, ↓dNeg, ↓dE0, ↓dPrs, ↓dErr, ↓dEx0, ↓dAndV, ↓dOrV, ↓dNotV, fin, oGt, oLt, oGe, oLe, oMod, oMul, oSub, oFdv, oPow, oDivm, oAbs, oMax, oMin, r_int, r_bl, r_str, r_non, r_tup, r_lst, r_scr, r_dic, r_exn, w_add, w_oI, w_cmp, w_i1, w_i2, w_int, w_nl0, w_isN, w_notN, truB, List.map_cons, List.map_nil, List.length_cons, List.length_nil, List.cons_append, List.nil_append, List.getElem?_cons_zero, List.getElem?_cons_succ, List.set_cons_zero, List.set_cons_succ, List.append_nil, Nat.reduceAdd, Nat.reduceSub, true_and, and_true, DL.isNon, Bool.false_eq_true, ↓reduceIte, Bool.not_true, Bool.not_false])
    refine ⟨.inl ⟨by decide, by decide⟩, by decide, by decide, .inr ⟨?_, ?_⟩, ?_⟩
    · have := Int.emod_nonneg (((b * 40009 + 15013 * (c + 1)) % 2147483629)) (show (5003 : Int) ≠ 0 by decide); omega
    · have := Int.emod_lt_of_pos (((b * 40009 + 15013 * (c + 1)) % 2147483629)) (show (0 : Int) < 5003 by decide); omega
    refine x_ix r_put at2 ?_
    (simp (config := { decide := false }) only [↓dSeq, ↓dIfS, ↓dTst, ↓dOp, ↓dVar, ↓dK, ↓dCons, ↓dNil, ↓dCall, ↓dCl, ↓dAsg, ↓gN, ↓gT, ↓gsCons, ↓gsNil, ↓gSb, ↓dRet, ↓dNx, ↓dIf, ↓dTup, ↓dLst, ↓dOpn, ↓dTru, ↓dAnd, ↓dOr, ↓dNot, ↓dExp, ↓xk_at, ↓nx_at, ↓rt_at, ↓dNeg, ↓dE0, ↓dPrs, ↓dErr, ↓dEx0, ↓dAndV, ↓dOrV, ↓dNotV, fin, oGt, oLt, oGe, oLe, oMod, oMul, oSub, oFdv, oPow, oDivm, oAbs, oMax, oMin, r_int, r_bl, r_str, r_non, r_tup, r_lst, r_scr, r_dic, r_exn, w_add, w_oI, w_cmp, w_i1, w_i2, w_int, w_nl0, w_isN, w_notN, truB, List.map_cons, List.map_nil, List.length_cons, List.length_nil, List.cons_append, List.nil_append, List.getElem?_cons_zero, List.getElem?_cons_succ, List.set_cons_zero, List.set_cons_succ, List.append_nil, Nat.reduceAdd, Nat.reduceSub, true_and, and_true, DL.isNon, Bool.false_eq_true, ↓reduceIte, Bool.not_true, Bool.not_false])
    refine ⟨by decide, ?_⟩
    rw [w_sL1 put_same]
    refine x_ix r_put at1 ?_
    (simp (config := { decide := false }) only [↓dSeq, ↓dIfS, ↓dTst, ↓dOp, ↓dVar, ↓dK, ↓dCons, ↓dNil, ↓dCall, ↓dCl, ↓dAsg, ↓gN, ↓gT, ↓gsCons, ↓gsNil, ↓gSb, ↓dRet, ↓dNx, ↓dIf, ↓dTup, ↓dLst, ↓dOpn, ↓dTru, ↓dAnd, ↓dOr, ↓dNot, ↓dExp, ↓xk_at, ↓nx_at, ↓rt_at, ↓dNeg, ↓dE0, ↓dPrs, ↓dErr, ↓dEx0, ↓dAndV, ↓dOrV, ↓dNotV, fin, oGt, oLt, oGe, oLe, oMod, oMul, oSub, oFdv, oPow, oDivm, oAbs, oMax, oMin, r_int, r_bl, r_str, r_non, r_tup, r_lst, r_scr, r_dic, r_exn, w_add, w_oI, w_cmp, w_i1, w_i2, w_int, w_nl0, w_isN, w_notN, truB, List.map_cons, List.map_nil, List.length_cons, List.length_nil, List.cons_append, List.nil_append, List.getElem?_cons_zero, List.getElem?_cons_succ, List.set_cons_zero, List.set_cons_succ, List.append_nil, Nat.reduceAdd, Nat.reduceSub, true_and, and_true, DL.isNon, Bool.false_eq_true, ↓reduceIte, Bool.not_true, Bool.not_false])
    refine ⟨⟨by decide, by decide⟩, h0, ?_⟩
    exact hq _ _ _ _ _ (Int.emod_nonneg _ (by omega)) (Int.emod_lt_of_pos _ h0) put_same (Beside.put.trans Beside.put)
def Wl (ω : Sto) (p : Addr) : Prop := ∃ a b c : Int, ω p = some (.lst [.int a, .int b, .int c])
theorem Wl.mk {ω : Sto} {p : Addr} {a b c : Int} (h : ω p = some (.lst [.int a, .int b, .int c])) : Wl ω p := ⟨a, b, c, h⟩
/-- the well: three numbers -/
theorem loop_ok {ns : D} {lap : Option D} {DD : DEn} {ω : Sto} {gd : Sto → Prop} : ∀ {l : List Int} {b : Int} {c : Option D} (_ : gd ω) (_ : ∀ b' c', DD.nx [some ns, lap, some (.int b'), c', none] ω),
    forL (gN 3) (dAsg (dOp oMod (dCl oInt (dCons (dOp (oAdd false) (dOp (oAdd false) (dOp oMul (dVar 2) (dK (.int 47521))) (dOp oMod (dCl oInt (dCons (dVar 3) dNil)) (dK (.int 2147483549)))) (dK (.int 41))) dNil)) (dK (.int 2147483629))) (gN 2)) gd (l.map .int) DD
      [some ns, lap, some (.int b), c, none] ω
  | [], b, c, g, h => ⟨g, h b c⟩
  | i :: l, b, c, g, h => by
    refine ⟨g, ?_⟩
    (simp (config := { decide := false }) only [↓dSeq, ↓dIfS, ↓dTst, ↓dOp, ↓dVar, ↓dK, ↓dCons, ↓dNil, ↓dCall, ↓dCl, ↓dAsg, ↓gN, ↓gT, ↓gsCons, ↓gsNil, ↓gSb, ↓dRet, ↓dNx, ↓dIf, ↓dTup, ↓dLst, ↓dOpn, ↓dTru, ↓dAnd, ↓dOr, ↓dNot, ↓dExp, ↓xk_at, ↓nx_at, ↓rt_at, ↓dNeg, ↓dE0, ↓dPrs, ↓dErr, ↓dEx0, ↓dAndV, ↓dOrV, ↓dNotV, fin, oGt, oLt, oGe, oLe, oMod, oMul, oSub, oFdv, oPow, oDivm, oAbs, oMax, oMin, r_int, r_bl, r_str, r_non, r_tup, r_lst, r_scr, r_dic, r_exn, w_add, w_oI, w_cmp, w_i1, w_i2, w_int, w_nl0, w_isN, w_notN, truB, List.map_cons, List.map_nil, List.length_cons, List.length_nil, List.cons_append, List.nil_append, List.getElem?_cons_zero, List.getElem?_cons_succ, List.set_cons_zero, List.set_cons_succ, List.append_nil, Nat.reduceAdd, Nat.reduceSub, true_and, and_true, DL.isNon, Bool.false_eq_true, ↓reduceIte, Bool.not_true, Bool.not_false])
    exact ⟨.inr ⟨by decide, by decide⟩, by decide, by decide, loop_ok g h⟩
theorem well_ok {ns : List Int} {lap : Int} {ω : Sto} {Q : DQ} {E : DX} (h0 : 0 ≤ lap) (h1 : lap < 100) (hq : ∀ p, ω p = none → ∀ a b, Q (.ref p) (put ω p (.lst [.int a, .int b, .int 0]))) : sp__law_well [.scr (ns.map .int), .int lap] ω Q E := by
  ((unfold sp__law_well; (simp (config := { decide := false }) only [spB, beg, List.length_cons, List.length_nil, List.map_cons, List.map_nil, List.cons_append, List.nil_append, Nat.reduceAdd, Nat.reduceSub, Nat.sub_self, List.replicate_succ, List.replicate_zero, List.append_nil, true_and]); unfold t__law_well; (simp (config := { decide := false }) only [↓dSeq, ↓dIfS, ↓dTst, ↓dOp, ↓dVar, ↓dK, ↓dCons, ↓dNil, ↓dCall, ↓dCl, ↓dAsg, ↓gN, ↓gT, ↓gsCons, ↓gsNil, ↓gSb, ↓dRet, ↓dNx, ↓dIf, ↓dTup, ↓dLst, ↓dOpn, ↓dTru, ↓dAnd, ↓dOr, ↓dNot, ↓dExp, ↓xk_at, ↓nx_at, ↓rt_at, ↓dNeg, ↓dE0, ↓dPrs, ↓dErr, ↓dEx0, ↓dAndV, ↓dOrV, ↓dNotV, fin, oGt, oLt, oGe, oLe, oMod, oMul, oSub, oFdv, oPow, oDivm, oAbs, oMax, oMin, r_int, r_bl, r_str, r_non, r_tup, r_lst, r_scr, r_dic, r_exn, w_add, w_oI, w_cmp, w_i1, w_i2, w_int, w_nl0, w_isN, w_notN, truB, List.map_cons, List.map_nil, List.length_cons, List.length_nil, List.cons_append, List.nil_append, List.getElem?_cons_zero, List.getElem?_cons_succ, List.set_cons_zero, List.set_cons_succ, List.append_nil, Nat.reduceAdd, Nat.reduceSub, true_and, and_true, DL.isNon, Bool.false_eq_true, ↓reduceIte, Bool.not_true, Bool.not_false])))
  refine ⟨.inl ⟨by decide, by decide⟩, ?_⟩
  unfold dFor dIt dSl dNoP dP
  (simp (config := { decide := false }) only [↓dSeq, ↓dIfS, ↓dTst, ↓dOp, ↓dVar, ↓dK, ↓dCons, ↓dNil, ↓dCall, ↓dCl, ↓dAsg, ↓gN, ↓gT, ↓gsCons, ↓gsNil, ↓gSb, ↓dRet, ↓dNx, ↓dIf, ↓dTup, ↓dLst, ↓dOpn, ↓dTru, ↓dAnd, ↓dOr, ↓dNot, ↓dExp, ↓xk_at, ↓nx_at, ↓rt_at, ↓dNeg, ↓dE0, ↓dPrs, ↓dErr, ↓dEx0, ↓dAndV, ↓dOrV, ↓dNotV, fin, oGt, oLt, oGe, oLe, oMod, oMul, oSub, oFdv, oPow, oDivm, oAbs, oMax, oMin, r_int, r_bl, r_str, r_non, r_tup, r_lst, r_scr, r_dic, r_exn, w_add, w_oI, w_cmp, w_i1, w_i2, w_int, w_nl0, w_isN, w_notN, truB, List.map_cons, List.map_nil, List.length_cons, List.length_nil, List.cons_append, List.nil_append, List.getElem?_cons_zero, List.getElem?_cons_succ, List.set_cons_zero, List.set_cons_succ, List.append_nil, Nat.reduceAdd, Nat.reduceSub, true_and, and_true, DL.isNon, Bool.false_eq_true, ↓reduceIte, Bool.not_true, Bool.not_false])
  rw [w_slS, w_nl0]
  show forL _ _ _ (cutL (ns.map D.int) none (some 9)) _ _ _
  have e : cutL (ns.map D.int) none (some 9) = (cutL ns none (some 9)).map D.int := by unfold cutL; rw [List.length_map, List.map_take, List.map_drop]
  rw [e]
  refine loop_ok trivial fun b c => ?_
  (simp (config := { decide := false }) only [↓dSeq, ↓dIfS, ↓dTst, ↓dOp, ↓dVar, ↓dK, ↓dCons, ↓dNil, ↓dCall, ↓dCl, ↓dAsg, ↓gN, ↓gT, ↓gsCons, ↓gsNil, ↓gSb, ↓dRet, ↓dNx, ↓dIf, ↓dTup, ↓dLst, ↓dOpn, ↓dTru, ↓dAnd, ↓dOr, ↓dNot, ↓dExp, ↓xk_at, ↓nx_at, ↓rt_at, ↓dNeg, ↓dE0, ↓dPrs, ↓dErr, ↓dEx0, ↓dAndV, ↓dOrV, ↓dNotV, fin, oGt, oLt, oGe, oLe, oMod, oMul, oSub, oFdv, oPow, oDivm, oAbs, oMax, oMin, r_int, r_bl, r_str, r_non, r_tup, r_lst, r_scr, r_dic, r_exn, w_add, w_oI, w_cmp, w_i1, w_i2, w_int, w_nl0, w_isN, w_notN, truB, List.map_cons, List.map_nil, List.length_cons, List.length_nil, List.cons_append, List.nil_append, List.getElem?_cons_zero, List.getElem?_cons_succ, List.set_cons_zero, List.set_cons_succ, List.append_nil, Nat.reduceAdd, Nat.reduceSub, true_and, and_true, DL.isNon, Bool.false_eq_true, ↓reduceIte, Bool.not_true, Bool.not_false])
  refine w_lenS (ds := ns.map D.int) rfl ?_
  (simp (config := { decide := false }) only [↓dSeq, ↓dIfS, ↓dTst, ↓dOp, ↓dVar, ↓dK, ↓dCons, ↓dNil, ↓dCall, ↓dCl, ↓dAsg, ↓gN, ↓gT, ↓gsCons, ↓gsNil, ↓gSb, ↓dRet, ↓dNx, ↓dIf, ↓dTup, ↓dLst, ↓dOpn, ↓dTru, ↓dAnd, ↓dOr, ↓dNot, ↓dExp, ↓xk_at, ↓nx_at, ↓rt_at, ↓dNeg, ↓dE0, ↓dPrs, ↓dErr, ↓dEx0, ↓dAndV, ↓dOrV, ↓dNotV, fin, oGt, oLt, oGe, oLe, oMod, oMul, oSub, oFdv, oPow, oDivm, oAbs, oMax, oMin, r_int, r_bl, r_str, r_non, r_tup, r_lst, r_scr, r_dic, r_exn, w_add, w_oI, w_cmp, w_i1, w_i2, w_int, w_nl0, w_isN, w_notN, truB, List.map_cons, List.map_nil, List.length_cons, List.length_nil, List.cons_append, List.nil_append, List.getElem?_cons_zero, List.getElem?_cons_succ, List.set_cons_zero, List.set_cons_succ, List.append_nil, Nat.reduceAdd, Nat.reduceSub, true_and, and_true, DL.isNon, Bool.false_eq_true, ↓reduceIte, Bool.not_true, Bool.not_false])
  have tail : ∀ v : Int, (∀ p, ω p = none → ∀ a b, Q (.ref p) (put ω p (.lst [.int a, .int b, .int 0]))) → dSeq (dAsg (dOp oMod (dCl oInt (dCons (dOp (oAdd false) (dOp (oAdd false) (dOp oMul (dVar 2) (dK (.int 61))) (dOp oMul (dOp oMod (dCl oInt (dCons (dVar 4) dNil)) (dK (.int 2147483549))) (dK (.int 16007)))) (dK (.int 17))) dNil)) (dK (.int 2147483629))) (gN 2))
      (dRet (dOpn (dCons (dIf (dOr (dTst (dOp oLt (dVar 4) (dK (.int 0)))) (dTst (dOp oGe (dVar 4) (dOp oPow (dK (.int 10)) (dK (.int 15)))))) (dCl oAbs (dCons (dVar 4) dNil)) (dK (.int 0))) (dCons (dVar 2) (dCons (dK (.int 0)) dNil))))) (fin Q E) [some (.scr (ns.map .int)), some (.int lap), some (.int b), c, some (.int v)] ω := by
    intro v hq
    (simp (config := { decide := false }) only [↓dSeq, ↓dIfS, ↓dTst, ↓dOp, ↓dVar, ↓dK, ↓dCons, ↓dNil, ↓dCall, ↓dCl, ↓dAsg, ↓gN, ↓gT, ↓gsCons, ↓gsNil, ↓gSb, ↓dRet, ↓dNx, ↓dIf, ↓dTup, ↓dLst, ↓dOpn, ↓dTru, ↓dAnd, ↓dOr, ↓dNot, ↓dExp, ↓xk_at, ↓nx_at, ↓rt_at, ↓dNeg, ↓dE0, ↓dPrs, ↓dErr, ↓dEx0, ↓dAndV, ↓dOrV, ↓dNotV, fin, oGt, oLt, oGe, oLe, oMod, oMul, oSub, oFdv, oPow, oDivm, oAbs, oMax, oMin, r_int, r_bl, r_str, r_non, r_tup, r_lst, r_scr, r_dic, r_exn, w_add, w_oI, w_cmp, w_i1, w_i2, w_int, w_nl0, w_isN, w_notN, truB, List.map_cons, List.map_nil, List.length_cons, List.length_nil, List.cons_append, List.nil_append, List.getElem?_cons_zero, List.getElem?_cons_succ, List.set_cons_zero, List.set_cons_succ, List.append_nil, Nat.reduceAdd, Nat.reduceSub, true_and, and_true, DL.isNon, Bool.false_eq_true, ↓reduceIte, Bool.not_true, Bool.not_false])
    refine ⟨.inr ⟨by decide, by decide⟩, by decide, .inr ⟨by decide, by decide⟩, by decide, ?_⟩
    have lz : (0 + 1 + 1 + 1 : Nat) ≤ sizeLine := by rw [sizeLine_eq]; decide
    split
    · exact ⟨lz, fun p n => hq p n _ _⟩
    · refine ⟨⟨by decide, by decide, by decide⟩, ?_⟩
      split
      · exact ⟨lz, fun p n => hq p n _ _⟩
      · exact ⟨lz, fun p n => hq p n _ _⟩
  split
  · rename_i hl
    have hl' : lap < (ns.length : Int) := by simpa using hl
    obtain ⟨n, rfl⟩ := Int.eq_ofNat_of_zero_le h0
    have hn : n < ns.length := by exact_mod_cast hl'
    refine x_ixS (z := .int ns[n]) (ds := ns.map D.int) rfl (at_of rfl (by rw [List.getElem?_map, List.getElem?_eq_getElem hn]; rfl)) ?_
    (simp (config := { decide := false }) only [↓dSeq, ↓dIfS, ↓dTst, ↓dOp, ↓dVar, ↓dK, ↓dCons, ↓dNil, ↓dCall, ↓dCl, ↓dAsg, ↓gN, ↓gT, ↓gsCons, ↓gsNil, ↓gSb, ↓dRet, ↓dNx, ↓dIf, ↓dTup, ↓dLst, ↓dOpn, ↓dTru, ↓dAnd, ↓dOr, ↓dNot, ↓dExp, ↓xk_at, ↓nx_at, ↓rt_at, ↓dNeg, ↓dE0, ↓dPrs, ↓dErr, ↓dEx0, ↓dAndV, ↓dOrV, ↓dNotV, fin, oGt, oLt, oGe, oLe, oMod, oMul, oSub, oFdv, oPow, oDivm, oAbs, oMax, oMin, r_int, r_bl, r_str, r_non, r_tup, r_lst, r_scr, r_dic, r_exn, w_add, w_oI, w_cmp, w_i1, w_i2, w_int, w_nl0, w_isN, w_notN, truB, List.map_cons, List.map_nil, List.length_cons, List.length_nil, List.cons_append, List.nil_append, List.getElem?_cons_zero, List.getElem?_cons_succ, List.set_cons_zero, List.set_cons_succ, List.append_nil, Nat.reduceAdd, Nat.reduceSub, true_and, and_true, DL.isNon, Bool.false_eq_true, ↓reduceIte, Bool.not_true, Bool.not_false])
    exact tail _ hq
  · exact tail _ hq
end K01
end

section
set_option Elab.async false
set_option linter.all false
set_option maxRecDepth 100000
set_option maxHeartbeats 400000
namespace K01
open PySem PySem.Spec L2 DL
open PyProof.Rows hiding St
theorem of_ok {p : Addr} {ds : List D} {ω : Sto} {Q : DQ} {E : DX} (h : Wl ω p) (h0 : 0 < ds.length) (h1 : ds.length < 1073741824) (hq : ∀ d ∈ ds, ∀ ω', Wl ω' p → Beside p ω ω' → Q d ω') : sp__law_of [.ref p, .tup ds] ω Q E := by
  obtain ⟨a, b, c, h⟩ := h
  ((unfold sp__law_of; (simp (config := { decide := false }) only [spB, beg, List.length_cons, List.length_nil, List.map_cons, List.map_nil, List.cons_append, List.nil_append, Nat.reduceAdd, Nat.reduceSub, Nat.sub_self, List.replicate_succ, List.replicate_zero, List.append_nil, true_and]); unfold t__law_of; (simp (config := { decide := false }) only [↓dSeq, ↓dIfS, ↓dTst, ↓dOp, ↓dVar, ↓dK, ↓dCons, ↓dNil, ↓dCall, ↓dCl, ↓dAsg, ↓gN, ↓gT, ↓gsCons, ↓gsNil, ↓gSb, ↓dRet, ↓dNx, ↓dIf, ↓dTup, ↓dLst, ↓dOpn, ↓dTru, ↓dAnd, ↓dOr, ↓dNot, ↓dExp, ↓xk_at, ↓nx_at, ↓rt_at, ↓dNeg, ↓dE0, ↓dPrs, ↓dErr, ↓dEx0, ↓dAndV, ↓dOrV, ↓dNotV, fin, oGt, oLt, oGe, oLe, oMod, oMul, oSub, oFdv, oPow, oDivm, oAbs, oMax, oMin, r_int, r_bl, r_str, r_non, r_tup, r_lst, r_scr, r_dic, r_exn, w_add, w_oI, w_cmp, w_i1, w_i2, w_int, w_nl0, w_isN, w_notN, truB, List.map_cons, List.map_nil, List.length_cons, List.length_nil, List.cons_append, List.nil_append, List.getElem?_cons_zero, List.getElem?_cons_succ, List.set_cons_zero, List.set_cons_succ, List.append_nil, Nat.reduceAdd, Nat.reduceSub, true_and, and_true, DL.isNon, Bool.false_eq_true, ↓reduceIte, Bool.not_true, Bool.not_false])))
  refine w_lenT rfl ?_
  refine draw_ok h (by omega) (by omega) fun i a' b' c' ω' i0 i1 h' hb => ?_
  obtain ⟨n, rfl⟩ := Int.eq_ofNat_of_zero_le i0
  have hn : n < ds.length := by exact_mod_cast i1
  exact x_ixT (z := ds[n]) rfl (at_of rfl (List.getElem?_eq_getElem hn)) (hq _ (List.getElem_mem hn) _ (.mk h') hb)
/-- the values that are drawn -/
def vals : List D := [.non, .bl true, .bl false, .int 0, .int (-1), .int 7, .int (10 ^ 50), .str "", .str "ann", .str " ", .tup [], .tup [.int 1, .tup [.str "a"]], .lst [], .dic [], .lst [.str "x"], .dic [(.inr "a", .int 1)], .tup [.non, .bl true]]
theorem value_ok {p : Addr} {ω : Sto} {Q : DQ} {E : DX} (h : Wl ω p) (hq : ∀ d ∈ vals, ∀ ω', Wl ω' p → Beside p ω ω' → Q d ω') : sp__law_value [.ref p] ω Q E := by
  ((unfold sp__law_value; (simp (config := { decide := false }) only [spB, beg, List.length_cons, List.length_nil, List.map_cons, List.map_nil, List.cons_append, List.nil_append, Nat.reduceAdd, Nat.reduceSub, Nat.sub_self, List.replicate_succ, List.replicate_zero, List.append_nil, true_and]); unfold t__law_value; (simp (config := { decide := false }) only [↓dSeq, ↓dIfS, ↓dTst, ↓dOp, ↓dVar, ↓dK, ↓dCons, ↓dNil, ↓dCall, ↓dCl, ↓dAsg, ↓gN, ↓gT, ↓gsCons, ↓gsNil, ↓gSb, ↓dRet, ↓dNx, ↓dIf, ↓dTup, ↓dLst, ↓dOpn, ↓dTru, ↓dAnd, ↓dOr, ↓dNot, ↓dExp, ↓xk_at, ↓nx_at, ↓rt_at, ↓dNeg, ↓dE0, ↓dPrs, ↓dErr, ↓dEx0, ↓dAndV, ↓dOrV, ↓dNotV, fin, oGt, oLt, oGe, oLe, oMod, oMul, oSub, oFdv, oPow, oDivm, oAbs, oMax, oMin, r_int, r_bl, r_str, r_non, r_tup, r_lst, r_scr, r_dic, r_exn, w_add, w_oI, w_cmp, w_i1, w_i2, w_int, w_nl0, w_isN, w_notN, truB, List.map_cons, List.map_nil, List.length_cons, List.length_nil, List.cons_append, List.nil_append, List.getElem?_cons_zero, List.getElem?_cons_succ, List.set_cons_zero, List.set_cons_succ, List.append_nil, Nat.reduceAdd, Nat.reduceSub, true_and, and_true, DL.isNon, Bool.false_eq_true, ↓reduceIte, Bool.not_true, Bool.not_false])))
  refine ⟨⟨by decide, by decide, by decide⟩, sz (by decide), sz (by decide), sz (by decide), sz (by decide), sz (by decide), w_dsp1 ⟨sz (by decide), sz (by decide), sz (by decide), ?_⟩⟩
  rw [w_addT]
  exact ⟨sz (by decide), of_ok h (by decide) (by decide) hq⟩
end K01
end

section
set_option Elab.async false
set_option linter.all false
set_option maxRecDepth 100000
set_option maxHeartbeats 400000
namespace K01
open PySem PySem.Spec L2 DL
open PyProof.Rows hiding St
/-- what may be shown, and its text compared -/
def okIs (d : D) : Prop := okShow1 d ∧ PyData.strOk (dpy d).shown = true
theorem is_ok {d e : D} {ω : Sto} {Q : DQ} {E : DX} (hd : okIs (der ω d)) (he : okIs (der ω e)) (q : Q (.bl (decide ((dpy (der ω d)).shown = (dpy (der ω e)).shown))) ω) : sp__law_is [d, e] ω Q E := by
  ((unfold sp__law_is; (simp (config := { decide := false }) only [spB, beg, List.length_cons, List.length_nil, List.map_cons, List.map_nil, List.cons_append, List.nil_append, Nat.reduceAdd, Nat.reduceSub, Nat.sub_self, List.replicate_succ, List.replicate_zero, List.append_nil, true_and]); unfold t__law_is; (simp (config := { decide := false }) only [↓dSeq, ↓dIfS, ↓dTst, ↓dOp, ↓dVar, ↓dK, ↓dCons, ↓dNil, ↓dCall, ↓dCl, ↓dAsg, ↓gN, ↓gT, ↓gsCons, ↓gsNil, ↓gSb, ↓dRet, ↓dNx, ↓dIf, ↓dTup, ↓dLst, ↓dOpn, ↓dTru, ↓dAnd, ↓dOr, ↓dNot, ↓dExp, ↓xk_at, ↓nx_at, ↓rt_at, ↓dNeg, ↓dE0, ↓dPrs, ↓dErr, ↓dEx0, ↓dAndV, ↓dOrV, ↓dNotV, fin, oGt, oLt, oGe, oLe, oMod, oMul, oSub, oFdv, oPow, oDivm, oAbs, oMax, oMin, r_int, r_bl, r_str, r_non, r_tup, r_lst, r_scr, r_dic, r_exn, w_add, w_oI, w_cmp, w_i1, w_i2, w_int, w_nl0, w_isN, w_notN, truB, List.map_cons, List.map_nil, List.length_cons, List.length_nil, List.cons_append, List.nil_append, List.getElem?_cons_zero, List.getElem?_cons_succ, List.set_cons_zero, List.set_cons_succ, List.append_nil, Nat.reduceAdd, Nat.reduceSub, true_and, and_true, DL.isNon, Bool.false_eq_true, ↓reduceIte, Bool.not_true, Bool.not_false])))
  exact ⟨hd.1, he.1, eq_str hd.2 he.2 q⟩
theorem is_same {d : D} {ω : Sto} {Q : DQ} {E : DX} (r : der ω d = d) (hd : okIs d) (q : Q (.bl true) ω) : sp__law_is [d, d] ω Q E := by
  refine is_ok (by rw [r]; exact hd) (by rw [r]; exact hd) ?_
  rw [decide_eq_true rfl]
  exact q
/-- word, class, the name of what it keeps -/
def tabA : List (Str × Addr × Str) := [("InvalidText", 46, "given"), ("InvalidProgram", 67, "given"), ("InvalidExpression", 88, "given"), ("InvalidNumber", 109, "given"), ("InvalidImage", 130, "given"), ("InvalidTable", 151, "given"), ("InvalidDump", 172, "given"),
  ("InvalidPoint", 193, "given"), ("InvalidRow", 214, "given"), ("InvalidFormula", 235, "given"), ("InvalidPacked", 256, "given"), ("InvalidStand", 277, "given"), ("InvalidCommand", 298, "given"), ("UnknownName", 319, "given"), ("TooMany", 340, "given"), ("NotADesk", 361, "given"),
  ("InvalidPasses", 382, "index")]
def tabB : List (Str × Addr × Str) := [("InvalidInputs", 403, "index"), ("InvalidScript", 424, "index"), ("Wrong", 445, "inputs")]
theorem word_step {w l : Str} {ω : Sto} {A B : Sto → Prop} (hw : PyData.strOk w = true) (hl : PyData.strOk l = true) (ha : w = l → A ω) (hb : w ≠ l → B ω) : oEq (.str w) (.str l) ω (fun d ω1 => match d with
    | .bl b => if b = true then A ω1 else B ω1
    | _ => False) := by
  refine eq_str hw hl ?_
  show if decide (w = l) = true then A ω else B ω
  by_cases h : w = l
  · rw [if_pos (by simpa using h)]; exact ha h
  · rw [if_neg (by simpa using h)]; exact hb h
theorem made_a_ok {w : Str} {v : D} {b : Bool} {ω : Sto} {Q : DQ} {E : DX} (hw : PyData.strOk w = true) (h1 : ∀ C g, (w, C, g) ∈ tabA → Q (.exn C [(g, v)]) ω) (h2 : w ∉ tabA.map (·.1) → Q .non ω) : sp__law_made_a [.str w, v, .bl b] ω Q E := by
  ((unfold sp__law_made_a; (simp (config := { decide := false }) only [spB, beg, List.length_cons, List.length_nil, List.map_cons, List.map_nil, List.cons_append, List.nil_append, Nat.reduceAdd, Nat.reduceSub, Nat.sub_self, List.replicate_succ, List.replicate_zero, List.append_nil, true_and]); unfold t__law_made_a; (simp (config := { decide := false }) only [↓dSeq, ↓dIfS, ↓dTst, ↓dOp, ↓dVar, ↓dK, ↓dCons, ↓dNil, ↓dCall, ↓dCl, ↓dAsg, ↓gN, ↓gT, ↓gsCons, ↓gsNil, ↓gSb, ↓dRet, ↓dNx, ↓dIf, ↓dTup, ↓dLst, ↓dOpn, ↓dTru, ↓dAnd, ↓dOr, ↓dNot, ↓dExp, ↓xk_at, ↓nx_at, ↓rt_at, ↓dNeg, ↓dE0, ↓dPrs, ↓dErr, ↓dEx0, ↓dAndV, ↓dOrV, ↓dNotV, fin, oGt, oLt, oGe, oLe, oMod, oMul, oSub, oFdv, oPow, oDivm, oAbs, oMax, oMin, r_int, r_bl, r_str, r_non, r_tup, r_lst, r_scr, r_dic, r_exn, w_add, w_oI, w_cmp, w_i1, w_i2, w_int, w_nl0, w_isN, w_notN, truB, List.map_cons, List.map_nil, List.length_cons, List.length_nil, List.cons_append, List.nil_append, List.getElem?_cons_zero, List.getElem?_cons_succ, List.set_cons_zero, List.set_cons_succ, List.append_nil, Nat.reduceAdd, Nat.reduceSub, true_and, and_true, DL.isNon, Bool.false_eq_true, ↓reduceIte, Bool.not_true, Bool.not_false])))
  refine word_step hw (by decide +kernel) (fun h => by subst h; cases b <;> exact h1 _ _ (by decide +kernel)) (fun n1 => ?_)
  refine word_step hw (by decide +kernel) (fun h => by subst h; cases b <;> exact h1 _ _ (by decide +kernel)) (fun n2 => ?_)
  refine word_step hw (by decide +kernel) (fun h => by subst h; cases b <;> exact h1 _ _ (by decide +kernel)) (fun n3 => ?_)
  refine word_step hw (by decide +kernel) (fun h => by subst h; cases b <;> exact h1 _ _ (by decide +kernel)) (fun n4 => ?_)
  refine word_step hw (by decide +kernel) (fun h => by subst h; cases b <;> exact h1 _ _ (by decide +kernel)) (fun n5 => ?_)
  refine word_step hw (by decide +kernel) (fun h => by subst h; cases b <;> exact h1 _ _ (by decide +kernel)) (fun n6 => ?_)
  refine word_step hw (by decide +kernel) (fun h => by subst h; cases b <;> exact h1 _ _ (by decide +kernel)) (fun n7 => ?_)
  refine word_step hw (by decide +kernel) (fun h => by subst h; cases b <;> exact h1 _ _ (by decide +kernel)) (fun n8 => ?_)
  refine word_step hw (by decide +kernel) (fun h => by subst h; cases b <;> exact h1 _ _ (by decide +kernel)) (fun n9 => ?_)
  refine word_step hw (by decide +kernel) (fun h => by subst h; cases b <;> exact h1 _ _ (by decide +kernel)) (fun n10 => ?_)
  refine word_step hw (by decide +kernel) (fun h => by subst h; cases b <;> exact h1 _ _ (by decide +kernel)) (fun n11 => ?_)
  refine word_step hw (by decide +kernel) (fun h => by subst h; cases b <;> exact h1 _ _ (by decide +kernel)) (fun n12 => ?_)
  refine word_step hw (by decide +kernel) (fun h => by subst h; cases b <;> exact h1 _ _ (by decide +kernel)) (fun n13 => ?_)
  refine word_step hw (by decide +kernel) (fun h => by subst h; cases b <;> exact h1 _ _ (by decide +kernel)) (fun n14 => ?_)
  refine word_step hw (by decide +kernel) (fun h => by subst h; cases b <;> exact h1 _ _ (by decide +kernel)) (fun n15 => ?_)
  refine word_step hw (by decide +kernel) (fun h => by subst h; cases b <;> exact h1 _ _ (by decide +kernel)) (fun n16 => ?_)
  refine word_step hw (by decide +kernel) (fun h => by subst h; cases b <;> exact h1 _ _ (by decide +kernel)) (fun n17 => ?_)
  exact h2 (by simp only [tabA, List.map_cons, List.map_nil, List.mem_cons, List.not_mem_nil, or_false, not_or]; exact ⟨n1, n2, n3, n4, n5, n6, n7, n8, n9, n10, n11, n12, n13, n14, n15, n16, n17⟩)
theorem made_b_ok {w : Str} {v : D} {b : Bool} {ω : Sto} {Q : DQ} {E : DX} (hw : PyData.strOk w = true) (h1 : ∀ C g, (w, C, g) ∈ tabB → Q (.exn C [(g, v)]) ω) (h2 : w ∉ tabB.map (·.1) → Q .non ω) : sp__law_made_b [.str w, v, .bl b] ω Q E := by
  ((unfold sp__law_made_b; (simp (config := { decide := false }) only [spB, beg, List.length_cons, List.length_nil, List.map_cons, List.map_nil, List.cons_append, List.nil_append, Nat.reduceAdd, Nat.reduceSub, Nat.sub_self, List.replicate_succ, List.replicate_zero, List.append_nil, true_and]); unfold t__law_made_b; (simp (config := { decide := false }) only [↓dSeq, ↓dIfS, ↓dTst, ↓dOp, ↓dVar, ↓dK, ↓dCons, ↓dNil, ↓dCall, ↓dCl, ↓dAsg, ↓gN, ↓gT, ↓gsCons, ↓gsNil, ↓gSb, ↓dRet, ↓dNx, ↓dIf, ↓dTup, ↓dLst, ↓dOpn, ↓dTru, ↓dAnd, ↓dOr, ↓dNot, ↓dExp, ↓xk_at, ↓nx_at, ↓rt_at, ↓dNeg, ↓dE0, ↓dPrs, ↓dErr, ↓dEx0, ↓dAndV, ↓dOrV, ↓dNotV, fin, oGt, oLt, oGe, oLe, oMod, oMul, oSub, oFdv, oPow, oDivm, oAbs, oMax, oMin, r_int, r_bl, r_str, r_non, r_tup, r_lst, r_scr, r_dic, r_exn, w_add, w_oI, w_cmp, w_i1, w_i2, w_int, w_nl0, w_isN, w_notN, truB, List.map_cons, List.map_nil, List.length_cons, List.length_nil, List.cons_append, List.nil_append, List.getElem?_cons_zero, List.getElem?_cons_succ, List.set_cons_zero, List.set_cons_succ, List.append_nil, Nat.reduceAdd, Nat.reduceSub, true_and, and_true, DL.isNon, Bool.false_eq_true, ↓reduceIte, Bool.not_true, Bool.not_false])))
  refine word_step hw (by decide +kernel) (fun h => by subst h; cases b <;> exact h1 _ _ (by decide +kernel)) (fun n1 => ?_)
  refine word_step hw (by decide +kernel) (fun h => by subst h; cases b <;> exact h1 _ _ (by decide +kernel)) (fun n2 => ?_)
  refine word_step hw (by decide +kernel) (fun h => by subst h; cases b <;> exact h1 _ _ (by decide +kernel)) (fun n3 => ?_)
  exact h2 (by simp only [tabB, List.map_cons, List.map_nil, List.mem_cons, List.not_mem_nil, or_false, not_or]; exact ⟨n1, n2, n3⟩)
theorem made_ok {w : Str} {v : D} {b : Bool} {ω : Sto} {Q : DQ} {E : DX} (hw : PyData.strOk w = true) (hm : w ∈ (tabA ++ tabB).map (·.1)) (h1 : ∀ C g, (w, C, g) ∈ tabA ++ tabB → Q (.exn C [(g, v)]) ω) : sp__law_made [.str w, v, .bl b] ω Q E := by
  ((unfold sp__law_made; (simp (config := { decide := false }) only [spB, beg, List.length_cons, List.length_nil, List.map_cons, List.map_nil, List.cons_append, List.nil_append, Nat.reduceAdd, Nat.reduceSub, Nat.sub_self, List.replicate_succ, List.replicate_zero, List.append_nil, true_and]); unfold t__law_made; (simp (config := { decide := false }) only [↓dSeq, ↓dIfS, ↓dTst, ↓dOp, ↓dVar, ↓dK, ↓dCons, ↓dNil, ↓dCall, ↓dCl, ↓dAsg, ↓gN, ↓gT, ↓gsCons, ↓gsNil, ↓gSb, ↓dRet, ↓dNx, ↓dIf, ↓dTup, ↓dLst, ↓dOpn, ↓dTru, ↓dAnd, ↓dOr, ↓dNot, ↓dExp, ↓xk_at, ↓nx_at, ↓rt_at, ↓dNeg, ↓dE0, ↓dPrs, ↓dErr, ↓dEx0, ↓dAndV, ↓dOrV, ↓dNotV, fin, oGt, oLt, oGe, oLe, oMod, oMul, oSub, oFdv, oPow, oDivm, oAbs, oMax, oMin, r_int, r_bl, r_str, r_non, r_tup, r_lst, r_scr, r_dic, r_exn, w_add, w_oI, w_cmp, w_i1, w_i2, w_int, w_nl0, w_isN, w_notN, truB, List.map_cons, List.map_nil, List.length_cons, List.length_nil, List.cons_append, List.nil_append, List.getElem?_cons_zero, List.getElem?_cons_succ, List.set_cons_zero, List.set_cons_succ, List.append_nil, Nat.reduceAdd, Nat.reduceSub, true_and, and_true, DL.isNon, Bool.false_eq_true, ↓reduceIte, Bool.not_true, Bool.not_false])))
  refine made_a_ok hw (fun C g h => ?_) fun h => ?_
  · (simp (config := { decide := false }) only [↓dSeq, ↓dIfS, ↓dTst, ↓dOp, ↓dVar, ↓dK, ↓dCons, ↓dNil, ↓dCall, ↓dCl, ↓dAsg, ↓gN, ↓gT, ↓gsCons, ↓gsNil, ↓gSb, ↓dRet, ↓dNx, ↓dIf, ↓dTup, ↓dLst, ↓dOpn, ↓dTru, ↓dAnd, ↓dOr, ↓dNot, ↓dExp, ↓xk_at, ↓nx_at, ↓rt_at, ↓dNeg, ↓dE0, ↓dPrs, ↓dErr, ↓dEx0, ↓dAndV, ↓dOrV, ↓dNotV, fin, oGt, oLt, oGe, oLe, oMod, oMul, oSub, oFdv, oPow, oDivm, oAbs, oMax, oMin, r_int, r_bl, r_str, r_non, r_tup, r_lst, r_scr, r_dic, r_exn, w_add, w_oI, w_cmp, w_i1, w_i2, w_int, w_nl0, w_isN, w_notN, truB, List.map_cons, List.map_nil, List.length_cons, List.length_nil, List.cons_append, List.nil_append, List.getElem?_cons_zero, List.getElem?_cons_succ, List.set_cons_zero, List.set_cons_succ, List.append_nil, Nat.reduceAdd, Nat.reduceSub, true_and, and_true, DL.isNon, Bool.false_eq_true, ↓reduceIte, Bool.not_true, Bool.not_false])
    exact h1 C g (List.mem_append_left _ h)
  · (simp (config := { decide := false }) only [↓dSeq, ↓dIfS, ↓dTst, ↓dOp, ↓dVar, ↓dK, ↓dCons, ↓dNil, ↓dCall, ↓dCl, ↓dAsg, ↓gN, ↓gT, ↓gsCons, ↓gsNil, ↓gSb, ↓dRet, ↓dNx, ↓dIf, ↓dTup, ↓dLst, ↓dOpn, ↓dTru, ↓dAnd, ↓dOr, ↓dNot, ↓dExp, ↓xk_at, ↓nx_at, ↓rt_at, ↓dNeg, ↓dE0, ↓dPrs, ↓dErr, ↓dEx0, ↓dAndV, ↓dOrV, ↓dNotV, fin, oGt, oLt, oGe, oLe, oMod, oMul, oSub, oFdv, oPow, oDivm, oAbs, oMax, oMin, r_int, r_bl, r_str, r_non, r_tup, r_lst, r_scr, r_dic, r_exn, w_add, w_oI, w_cmp, w_i1, w_i2, w_int, w_nl0, w_isN, w_notN, truB, List.map_cons, List.map_nil, List.length_cons, List.length_nil, List.cons_append, List.nil_append, List.getElem?_cons_zero, List.getElem?_cons_succ, List.set_cons_zero, List.set_cons_succ, List.append_nil, Nat.reduceAdd, Nat.reduceSub, true_and, and_true, DL.isNon, Bool.false_eq_true, ↓reduceIte, Bool.not_true, Bool.not_false])
    refine made_b_ok hw (fun C g h => ?_) fun h' => ?_
    · exact h1 C g (List.mem_append_right _ h)
    · rw [List.map_append, List.mem_append] at hm
      exact (hm.elim h h').elim
end K01
end

section
set_option Elab.async false
set_option linter.all false
set_option maxRecDepth 100000
set_option maxHeartbeats 400000
namespace K01
open PySem PySem.Spec L2 DL
open PyProof.Rows hiding St
def kin (C : Addr) (X : Addr) (s : Str) : List D := if isX 24 C (.ref X) = true then [.str s] else []
theorem kin_len {C X : Addr} {s : Str} : (kin C X s).length ≤ 1 := by unfold kin; split <;> simp
theorem isx_step {C X : Addr} {fs : List (Str × D)} {s : Str} {ω : Sto} {Q : DQ} {E : DX} {ρ : Rho} (hC : C ∈ errs) (hX : clsOk 24 errs (.ref X) = true) (q : Q (.lst (kin C X s)) ω) :
    dIf (dTru (dCl (oIsx 24 errs) (dCons (dVar 0) (dCons (dK (.ref X)) dNil)))) (dLst (dCons (dK (.str s)) dNil)) (dLst dNil) (some (.exn C fs) :: ρ) ω Q E := by
  (simp (config := { decide := false }) only [↓dSeq, ↓dIfS, ↓dTst, ↓dOp, ↓dVar, ↓dK, ↓dCons, ↓dNil, ↓dCall, ↓dCl, ↓dAsg, ↓gN, ↓gT, ↓gsCons, ↓gsNil, ↓gSb, ↓dRet, ↓dNx, ↓dIf, ↓dTup, ↓dLst, ↓dOpn, ↓dTru, ↓dAnd, ↓dOr, ↓dNot, ↓dExp, ↓xk_at, ↓nx_at, ↓rt_at, ↓dNeg, ↓dE0, ↓dPrs, ↓dErr, ↓dEx0, ↓dAndV, ↓dOrV, ↓dNotV, fin, oGt, oLt, oGe, oLe, oMod, oMul, oSub, oFdv, oPow, oDivm, oAbs, oMax, oMin, r_int, r_bl, r_str, r_non, r_tup, r_lst, r_scr, r_dic, r_exn, w_add, w_oI, w_cmp, w_i1, w_i2, w_int, w_nl0, w_isN, w_notN, truB, List.map_cons, List.map_nil, List.length_cons, List.length_nil, List.cons_append, List.nil_append, List.getElem?_cons_zero, List.getElem?_cons_succ, List.set_cons_zero, List.set_cons_succ, List.append_nil, Nat.reduceAdd, Nat.reduceSub, true_and, and_true, DL.isNon, Bool.false_eq_true, ↓reduceIte, Bool.not_true, Bool.not_false])
  show C ∈ errs ∧ (clsOk 24 errs (.ref X) = true ∧ _)
  refine ⟨hC, hX, ?_⟩
  (simp (config := { decide := false }) only [↓dSeq, ↓dIfS, ↓dTst, ↓dOp, ↓dVar, ↓dK, ↓dCons, ↓dNil, ↓dCall, ↓dCl, ↓dAsg, ↓gN, ↓gT, ↓gsCons, ↓gsNil, ↓gSb, ↓dRet, ↓dNx, ↓dIf, ↓dTup, ↓dLst, ↓dOpn, ↓dTru, ↓dAnd, ↓dOr, ↓dNot, ↓dExp, ↓xk_at, ↓nx_at, ↓rt_at, ↓dNeg, ↓dE0, ↓dPrs, ↓dErr, ↓dEx0, ↓dAndV, ↓dOrV, ↓dNotV, fin, oGt, oLt, oGe, oLe, oMod, oMul, oSub, oFdv, oPow, oDivm, oAbs, oMax, oMin, r_int, r_bl, r_str, r_non, r_tup, r_lst, r_scr, r_dic, r_exn, w_add, w_oI, w_cmp, w_i1, w_i2, w_int, w_nl0, w_isN, w_notN, truB, List.map_cons, List.map_nil, List.length_cons, List.length_nil, List.cons_append, List.nil_append, List.getElem?_cons_zero, List.getElem?_cons_succ, List.set_cons_zero, List.set_cons_succ, List.append_nil, Nat.reduceAdd, Nat.reduceSub, true_and, and_true, DL.isNon, Bool.false_eq_true, ↓reduceIte, Bool.not_true, Bool.not_false])
  unfold kin at q
  split
  · rename_i h; rw [if_pos h] at q; exact ⟨sz (by decide), q⟩
  · rename_i h; rw [if_neg h] at q; exact ⟨sz (by decide), q⟩
theorem kstep0 {C X : Addr} {fs : List (Str × D)} {s : Str} {ω : Sto} {DD : DEn} {rest : DTS} (hC : C ∈ errs) (hX : clsOk 24 errs (.ref X) = true) (q : (kin C X s).length ≤ 1 → rest DD [some (.exn C fs), some (.lst (kin C X s))] ω) :
    dSeq (dAsg (dIf (dTru (dCl (oIsx 24 errs) (dCons (dVar 0) (dCons (dK (.ref X)) dNil)))) (dLst (dCons (dK (.str s)) dNil)) (dLst dNil)) (gN 1)) rest DD [some (.exn C fs), none] ω :=
  isx_step hC hX (q kin_len)
theorem kstep {C X : Addr} {fs : List (Str × D)} {s : Str} {ω : Sto} {DD : DEn} {rest : DTS} {acc : List D} {n : Nat} (hC : C ∈ errs) (hX : clsOk 24 errs (.ref X) = true) (hl : acc.length ≤ n) (hn : n < 1000) (q : (acc ++ kin C X s).length ≤ n + 1 → rest DD [some (.exn C fs), some (.lst (acc ++ kin C X s))] ω) :
    dSeq (dAsg (dOp (oAdd false) (dVar 1) (dIf (dTru (dCl (oIsx 24 errs) (dCons (dVar 0) (dCons (dK (.ref X)) dNil)))) (dLst (dCons (dK (.str s)) dNil)) (dLst dNil))) (gN 1)) rest DD [some (.exn C fs), some (.lst acc)] ω := by
  have h1 : (acc ++ kin C X s).length ≤ n + 1 := by rw [List.length_append]; have := @kin_len C X s; omega
  simp only [↓dSeq, ↓dAsg, ↓dOp, ↓dVar, List.getElem?_cons_succ, List.getElem?_cons_zero, ↓gN]
  refine isx_step hC hX ?_
  rw [w_addL, w_nl0]
  exact ⟨sz (by rw [← List.length_append]; omega), q h1⟩
def namA : List (Str × Addr) := [("InvalidProgram", 67), ("InvalidExpression", 88), ("InvalidNumber", 109), ("InvalidImage", 130), ("InvalidTable", 151), ("InvalidDump", 172), ("InvalidPoint", 193), ("InvalidRow", 214), ("InvalidFormula", 235), ("InvalidPacked", 256), ("InvalidStand", 277),
  ("InvalidCommand", 298), ("UnknownName", 319), ("TooMany", 340), ("NotADesk", 361), ("InvalidPasses", 382), ("InvalidInputs", 403), ("InvalidScript", 424), ("NotLet", 457)]
def kA (C : Addr) : List D := namA.foldl (fun acc p => acc ++ kin C p.2 p.1) (kin C 46 "InvalidText")
def kB (C : Addr) : List D := [(("NotKept" : Str), (481 : Addr)), ("Wrong", 445)].foldl (fun acc p => acc ++ kin C p.2 p.1) (kin C 469 "Ended")
theorem kinds_a_ok {C : Addr} {fs : List (Str × D)} {ω : Sto} {Q : DQ} {E : DX} (hC : C ∈ errs) (q : (kA C).length ≤ 20 → Q (.lst (kA C)) ω) : sp__law_kinds_a [.exn C fs] ω Q E := by
  unfold sp__law_kinds_a
  (simp (config := { decide := false }) only [spB, beg, List.length_cons, List.length_nil, List.map_cons, List.map_nil, List.cons_append, List.nil_append, Nat.reduceAdd, Nat.reduceSub, Nat.sub_self, List.replicate_succ, List.replicate_zero, List.append_nil, true_and])
  unfold t__law_kinds_a
  refine kstep0 hC (by decide +kernel) fun hl => ?_
  iterate 19 refine kstep hC (by decide +kernel) hl (by decide) fun hl => ?_
  exact q hl
theorem kinds_b_ok {C : Addr} {fs : List (Str × D)} {ω : Sto} {Q : DQ} {E : DX} (hC : C ∈ errs) (q : (kB C).length ≤ 3 → Q (.lst (kB C)) ω) : sp__law_kinds_b [.exn C fs] ω Q E := by
  unfold sp__law_kinds_b
  (simp (config := { decide := false }) only [spB, beg, List.length_cons, List.length_nil, List.map_cons, List.map_nil, List.cons_append, List.nil_append, Nat.reduceAdd, Nat.reduceSub, Nat.sub_self, List.replicate_succ, List.replicate_zero, List.append_nil, true_and])
  unfold t__law_kinds_b
  refine kstep0 hC (by decide +kernel) fun hl => ?_
  refine kstep hC (by decide +kernel) hl (by decide) fun hl => ?_
  refine kstep hC (by decide +kernel) hl (by decide) fun hl => ?_
  exact q hl
end K01
end

section
set_option Elab.async false
set_option linter.all false
set_option maxRecDepth 100000
set_option maxHeartbeats 400000
namespace K01
open PySem PySem.Spec L2 DL
open PyProof.Rows hiding St
def oth : List Value := [.type "TypeError", .type "LookupError", .type "ArithmeticError", .type "AttributeError", .type "RuntimeError"]
def due (w : Str) : D := .lst [.lst [.str w], .bl true, .bl true, .bl false]
structure Own (C : Addr) (w : Str) : Prop where
  mem : C ∈ errs
  kinds : kA C ++ kB C = [.str w]
  own : isX 24 C (.ref 24) = true
  ve : isX 24 C (.type "ValueError") = true
  ot : oth.any (isX 24 C) = false
  ok : okIs (due w)
  so : PyData.strOk w = true
theorem is_own_ok {C : Addr} {w : Str} {fs : List (Str × D)} {ω : Sto} {Q : DQ} {E : DX} (h : Own C w) (q : Q (.bl true) ω) : sp__law_is_own [.exn C fs, .str w] ω Q E := by
  ((unfold sp__law_is_own; (simp (config := { decide := false }) only [spB, beg, List.length_cons, List.length_nil, List.map_cons, List.map_nil, List.cons_append, List.nil_append, Nat.reduceAdd, Nat.reduceSub, Nat.sub_self, List.replicate_succ, List.replicate_zero, List.append_nil, true_and]); unfold t__law_is_own; (simp (config := { decide := false }) only [↓dSeq, ↓dIfS, ↓dTst, ↓dOp, ↓dVar, ↓dK, ↓dCons, ↓dNil, ↓dCall, ↓dCl, ↓dAsg, ↓gN, ↓gT, ↓gsCons, ↓gsNil, ↓gSb, ↓dRet, ↓dNx, ↓dIf, ↓dTup, ↓dLst, ↓dOpn, ↓dTru, ↓dAnd, ↓dOr, ↓dNot, ↓dExp, ↓xk_at, ↓nx_at, ↓rt_at, ↓dNeg, ↓dE0, ↓dPrs, ↓dErr, ↓dEx0, ↓dAndV, ↓dOrV, ↓dNotV, fin, oGt, oLt, oGe, oLe, oMod, oMul, oSub, oFdv, oPow, oDivm, oAbs, oMax, oMin, r_int, r_bl, r_str, r_non, r_tup, r_lst, r_scr, r_dic, r_exn, w_add, w_oI, w_cmp, w_i1, w_i2, w_int, w_nl0, w_isN, w_notN, truB, List.map_cons, List.map_nil, List.length_cons, List.length_nil, List.cons_append, List.nil_append, List.getElem?_cons_zero, List.getElem?_cons_succ, List.set_cons_zero, List.set_cons_succ, List.append_nil, Nat.reduceAdd, Nat.reduceSub, true_and, and_true, DL.isNon, Bool.false_eq_true, ↓reduceIte, Bool.not_true, Bool.not_false])))
  refine ⟨sz (by decide), ?_⟩
  show C ∈ errs ∧ (oth.all (clsOk 24 errs) = true ∧ _)
  refine ⟨h.mem, by decide +kernel, ?_⟩
  (simp (config := { decide := false }) only [↓dSeq, ↓dIfS, ↓dTst, ↓dOp, ↓dVar, ↓dK, ↓dCons, ↓dNil, ↓dCall, ↓dCl, ↓dAsg, ↓gN, ↓gT, ↓gsCons, ↓gsNil, ↓gSb, ↓dRet, ↓dNx, ↓dIf, ↓dTup, ↓dLst, ↓dOpn, ↓dTru, ↓dAnd, ↓dOr, ↓dNot, ↓dExp, ↓xk_at, ↓nx_at, ↓rt_at, ↓dNeg, ↓dE0, ↓dPrs, ↓dErr, ↓dEx0, ↓dAndV, ↓dOrV, ↓dNotV, fin, oGt, oLt, oGe, oLe, oMod, oMul, oSub, oFdv, oPow, oDivm, oAbs, oMax, oMin, r_int, r_bl, r_str, r_non, r_tup, r_lst, r_scr, r_dic, r_exn, w_add, w_oI, w_cmp, w_i1, w_i2, w_int, w_nl0, w_isN, w_notN, truB, List.map_cons, List.map_nil, List.length_cons, List.length_nil, List.cons_append, List.nil_append, List.getElem?_cons_zero, List.getElem?_cons_succ, List.set_cons_zero, List.set_cons_succ, List.append_nil, Nat.reduceAdd, Nat.reduceSub, true_and, and_true, DL.isNon, Bool.false_eq_true, ↓reduceIte, Bool.not_true, Bool.not_false])
  refine kinds_a_ok h.mem fun l1 => kinds_b_ok h.mem fun l2 => ?_
  rw [w_addL, w_nl0, h.kinds]
  refine ⟨sz (by omega), ?_⟩
  show C ∈ errs ∧ (clsOk 24 errs (.ref 24) = true ∧ _)
  refine ⟨h.mem, by decide +kernel, ?_⟩
  show C ∈ errs ∧ (clsOk 24 errs (.type "ValueError") = true ∧ _)
  refine ⟨h.mem, by decide +kernel, ?_⟩
  rw [h.own, h.ve]
  show _ ∧ _ ∧ _ ∧ sp__law_is [.lst [.lst [.str w], .bl true, .bl true, .bl (oth.any (isX 24 C))], due w] ω _ _
  rw [h.ot]
  exact ⟨sz (by decide), sz (by decide), sz (by decide), is_same rfl h.ok q⟩
def AllO : List (Str × Addr × Str) → Prop
  | [] => True
  | p :: r => Own p.2.1 p.1 ∧ AllO r
theorem AllO.all : ∀ {l : List (Str × Addr × Str)}, AllO l → ∀ p ∈ l, Own p.2.1 p.1
  | [], _, _, h => by cases h
  | q :: r, a, p, h => by
    rcases List.mem_cons.mp h with rfl | h
    · exact a.1
    · exact AllO.all a.2 p h
theorem own_nl : Own 457 "NotLet" := by (exact ⟨by decide +kernel, by kernel_rfl, by decide +kernel, by decide +kernel, by decide +kernel, ⟨⟨by decide +kernel, by decide +kernel, by decide +kernel, by decide +kernel⟩, by decide +kernel⟩, by decide +kernel⟩)
theorem own_en : Own 469 "Ended" := by (exact ⟨by decide +kernel, by kernel_rfl, by decide +kernel, by decide +kernel, by decide +kernel, ⟨⟨by decide +kernel, by decide +kernel, by decide +kernel, by decide +kernel⟩, by decide +kernel⟩, by decide +kernel⟩)
theorem own_nk : Own 481 "NotKept" := by (exact ⟨by decide +kernel, by kernel_rfl, by decide +kernel, by decide +kernel, by decide +kernel, ⟨⟨by decide +kernel, by decide +kernel, by decide +kernel, by decide +kernel⟩, by decide +kernel⟩, by decide +kernel⟩)
theorem own_tab : AllO (tabA ++ tabB) := by
  unfold tabA tabB
  simp only [List.cons_append, List.nil_append]
  iterate 20 refine ⟨by (exact ⟨by decide +kernel, by kernel_rfl, by decide +kernel, by decide +kernel, by decide +kernel, ⟨⟨by decide +kernel, by decide +kernel, by decide +kernel, by decide +kernel⟩, by decide +kernel⟩, by decide +kernel⟩), ?_⟩
  trivial
end K01
end

section
set_option Elab.async false
set_option linter.all false
set_option maxRecDepth 100000
set_option maxHeartbeats 400000
namespace K01
open PySem PySem.Spec L2 DL
open PyProof.Rows hiding St
def tab : List (Str × Addr × Str) := tabA ++ tabB
def giv : List Str := ["InvalidText", "InvalidProgram", "InvalidExpression", "InvalidNumber", "InvalidImage", "InvalidTable", "InvalidDump", "InvalidPoint", "InvalidRow", "InvalidFormula", "InvalidPacked", "InvalidStand", "InvalidCommand", "UnknownName", "TooMany", "NotADesk"]
def idx : List Str := ["InvalidPasses", "InvalidInputs", "InvalidScript"]
theorem given_ok {ω : Sto} {Q : DQ} {E : DX} (q : Q (.lst (giv.map .str)) ω) : sp__law_given [] ω Q E := by
  ((unfold sp__law_given; (simp (config := { decide := false }) only [spB, beg, List.length_cons, List.length_nil, List.map_cons, List.map_nil, List.cons_append, List.nil_append, Nat.reduceAdd, Nat.reduceSub, Nat.sub_self, List.replicate_succ, List.replicate_zero, List.append_nil, true_and]); unfold t__law_given; (simp (config := { decide := false }) only [↓dSeq, ↓dIfS, ↓dTst, ↓dOp, ↓dVar, ↓dK, ↓dCons, ↓dNil, ↓dCall, ↓dCl, ↓dAsg, ↓gN, ↓gT, ↓gsCons, ↓gsNil, ↓gSb, ↓dRet, ↓dNx, ↓dIf, ↓dTup, ↓dLst, ↓dOpn, ↓dTru, ↓dAnd, ↓dOr, ↓dNot, ↓dExp, ↓xk_at, ↓nx_at, ↓rt_at, ↓dNeg, ↓dE0, ↓dPrs, ↓dErr, ↓dEx0, ↓dAndV, ↓dOrV, ↓dNotV, fin, oGt, oLt, oGe, oLe, oMod, oMul, oSub, oFdv, oPow, oDivm, oAbs, oMax, oMin, r_int, r_bl, r_str, r_non, r_tup, r_lst, r_scr, r_dic, r_exn, w_add, w_oI, w_cmp, w_i1, w_i2, w_int, w_nl0, w_isN, w_notN, truB, List.map_cons, List.map_nil, List.length_cons, List.length_nil, List.cons_append, List.nil_append, List.getElem?_cons_zero, List.getElem?_cons_succ, List.set_cons_zero, List.set_cons_succ, List.append_nil, Nat.reduceAdd, Nat.reduceSub, true_and, and_true, DL.isNon, Bool.false_eq_true, ↓reduceIte, Bool.not_true, Bool.not_false])))
  exact ⟨sz (by decide), q⟩
theorem index_ok {ω : Sto} {Q : DQ} {E : DX} (q : Q (.lst (idx.map .str)) ω) : sp__law_index [] ω Q E := by
  ((unfold sp__law_index; (simp (config := { decide := false }) only [spB, beg, List.length_cons, List.length_nil, List.map_cons, List.map_nil, List.cons_append, List.nil_append, Nat.reduceAdd, Nat.reduceSub, Nat.sub_self, List.replicate_succ, List.replicate_zero, List.append_nil, true_and]); unfold t__law_index; (simp (config := { decide := false }) only [↓dSeq, ↓dIfS, ↓dTst, ↓dOp, ↓dVar, ↓dK, ↓dCons, ↓dNil, ↓dCall, ↓dCl, ↓dAsg, ↓gN, ↓gT, ↓gsCons, ↓gsNil, ↓gSb, ↓dRet, ↓dNx, ↓dIf, ↓dTup, ↓dLst, ↓dOpn, ↓dTru, ↓dAnd, ↓dOr, ↓dNot, ↓dExp, ↓xk_at, ↓nx_at, ↓rt_at, ↓dNeg, ↓dE0, ↓dPrs, ↓dErr, ↓dEx0, ↓dAndV, ↓dOrV, ↓dNotV, fin, oGt, oLt, oGe, oLe, oMod, oMul, oSub, oFdv, oPow, oDivm, oAbs, oMax, oMin, r_int, r_bl, r_str, r_non, r_tup, r_lst, r_scr, r_dic, r_exn, w_add, w_oI, w_cmp, w_i1, w_i2, w_int, w_nl0, w_isN, w_notN, truB, List.map_cons, List.map_nil, List.length_cons, List.length_nil, List.cons_append, List.nil_append, List.getElem?_cons_zero, List.getElem?_cons_succ, List.set_cons_zero, List.set_cons_succ, List.append_nil, Nat.reduceAdd, Nat.reduceSub, true_and, and_true, DL.isNon, Bool.false_eq_true, ↓reduceIte, Bool.not_true, Bool.not_false])))
  exact ⟨sz (by decide), q⟩
def chk (p : Str × Addr × Str) : Bool := inF (.str p.1) (giv.map .str) == decide (p.2.2 = "given") && (decide (p.1 = "Wrong") == decide (p.2.2 = "inputs") && (decide (p.2.2 = "given") || (decide (p.2.2 = "inputs") || decide (p.2.2 = "index"))))
theorem chk_all : tab.all chk = true := by decide +kernel
theorem chk_of {w g : Str} {C : Addr} (h : (w, C, g) ∈ tab) : inF (.str w) (giv.map .str) = decide (g = "given") ∧ decide (w = "Wrong") = decide (g = "inputs") ∧ (g = "given" ∨ g = "inputs" ∨ g = "index") := by
  have z := List.all_eq_true.mp chk_all _ h
  unfold chk at z
  simp only [Bool.and_eq_true, beq_iff_eq, Bool.or_eq_true, decide_eq_true_eq] at z
  exact ⟨z.1, z.2.1, z.2.2⟩
theorem vals_ok : ∀ d ∈ vals, (∀ ω, der ω d = d) ∧ okIs d := by
  unfold vals
  intro d h
  simp only [List.mem_cons, List.not_mem_nil, or_false] at h
  have k : ∀ d : D, (plain1 d && ((dpy d).showable && (decide ((dpy d).depth ≤ 60) && (decide ((dpy d).shown.length ≤ 16777216) && PyData.strOk (dpy d).shown)))) = true → okIs d := fun d z => by
    simp only [Bool.and_eq_true, decide_eq_true_eq] at z
    exact ⟨⟨z.1, z.2.1, z.2.2.1, sz z.2.2.2.1⟩, z.2.2.2.2⟩
  rcases h with rfl | rfl | rfl | rfl | rfl | rfl | rfl | rfl | rfl | rfl | rfl | rfl | rfl | rfl | rfl | rfl | rfl <;> exact ⟨fun _ => rfl, k _ (by decide +kernel)⟩
theorem w_fld {cs : List Addr} {g : Str} {C : Addr} {d : D} {i : Nat} {ρ : Rho} {ω : Sto} {Q : DQ} {E : DX} (e : ρ[i]? = some (some (.exn C [(g, d)]))) (hC : C ∈ cs) (q : Q d ω) : dFld cs g (dVar i) ρ ω Q E := by
  unfold dFld dVar
  rw [e]
  show C ∈ cs ∧ (match List.lookup g [(g, d)] with | some d => Q d ω | none => False)
  rw [List.lookup_cons, beq_self_eq_true]
  exact ⟨hC, q⟩
/-- one word, by position or by name -/
theorem turn_ok {p : Addr} {w g : Str} {C : Addr} {b : Bool} {v e k : Option D} {ω : Sto} {DD : DEn} (hm : (w, C, g) ∈ tab) (h : Wl ω p) (hq : ∀ v' e' k' ω', Wl ω' p → Beside p ω ω' → DD.nx [some (.ref p), some (.str w), some (.bl b), v', e', k'] ω') :
    dSeq (dAsg (dCall sp__law_value (dCons (dVar 0) dNil)) (gN 3))
      (dSeq (dAsg (dCall sp__law_made (dCons (dVar 1) (dCons (dVar 3) (dCons (dVar 2) dNil)))) (gN 4))
      (dSeq (dAsg (dIf (dTst (dOp (oIn false) (dVar 1) (dCall sp__law_given dNil))) (dFld errs "given" (dVar 4)) (dIf (dTst (dOp oEq (dVar 1) (dK (.str "Wrong")))) (dFld errs "inputs" (dVar 4)) (dFld errs "index" (dVar 4)))) (gN 5))
      (dIfS (dOr (dNot (dTru (dCall sp__law_is (dCons (dVar 5) (dCons (dVar 3) dNil))))) (dNot (dTru (dCall sp__law_is_own (dCons (dVar 4) (dCons (dVar 1) dNil)))))) (dRet (dK (.bl false))) dNx))) DD [some (.ref p), some (.str w), some (.bl b), v, e, k] ω := by
  obtain ⟨nx, rt, bk, ct, ex⟩ := DD
  try (simp (config := { decide := false }) only [↓dSeq, ↓dIfS, ↓dTst, ↓dOp, ↓dVar, ↓dK, ↓dCons, ↓dNil, ↓dCall, ↓dCl, ↓dAsg, ↓gN, ↓gT, ↓gsCons, ↓gsNil, ↓gSb, ↓dRet, ↓dNx, ↓dIf, ↓dTup, ↓dLst, ↓dOpn, ↓dTru, ↓dAnd, ↓dOr, ↓dNot, ↓dExp, ↓xk_at, ↓nx_at, ↓rt_at, ↓dNeg, ↓dE0, ↓dPrs, ↓dErr, ↓dEx0, ↓dAndV, ↓dOrV, ↓dNotV, fin, oGt, oLt, oGe, oLe, oMod, oMul, oSub, oFdv, oPow, oDivm, oAbs, oMax, oMin, r_int, r_bl, r_str, r_non, r_tup, r_lst, r_scr, r_dic, r_exn, w_add, w_oI, w_cmp, w_i1, w_i2, w_int, w_nl0, w_isN, w_notN, truB, List.map_cons, List.map_nil, List.length_cons, List.length_nil, List.cons_append, List.nil_append, List.getElem?_cons_zero, List.getElem?_cons_succ, List.set_cons_zero, List.set_cons_succ, List.append_nil, Nat.reduceAdd, Nat.reduceSub, true_and, and_true, DL.isNon, Bool.false_eq_true, ↓reduceIte, Bool.not_true, Bool.not_false])
  refine value_ok h fun d hd ω' hw hb => ?_
  obtain ⟨hr, hi⟩ := vals_ok d hd
  have own := AllO.all own_tab _ hm
  refine made_ok own.so (List.mem_map.mpr ⟨_, hm, rfl⟩) fun C' g' hm' => ?_
  have own' := AllO.all own_tab _ hm'
  obtain ⟨c1, c2, c3⟩ := chk_of hm'
  try (simp (config := { decide := false }) only [↓dSeq, ↓dIfS, ↓dTst, ↓dOp, ↓dVar, ↓dK, ↓dCons, ↓dNil, ↓dCall, ↓dCl, ↓dAsg, ↓gN, ↓gT, ↓gsCons, ↓gsNil, ↓gSb, ↓dRet, ↓dNx, ↓dIf, ↓dTup, ↓dLst, ↓dOpn, ↓dTru, ↓dAnd, ↓dOr, ↓dNot, ↓dExp, ↓xk_at, ↓nx_at, ↓rt_at, ↓dNeg, ↓dE0, ↓dPrs, ↓dErr, ↓dEx0, ↓dAndV, ↓dOrV, ↓dNotV, fin, oGt, oLt, oGe, oLe, oMod, oMul, oSub, oFdv, oPow, oDivm, oAbs, oMax, oMin, r_int, r_bl, r_str, r_non, r_tup, r_lst, r_scr, r_dic, r_exn, w_add, w_oI, w_cmp, w_i1, w_i2, w_int, w_nl0, w_isN, w_notN, truB, List.map_cons, List.map_nil, List.length_cons, List.length_nil, List.cons_append, List.nil_append, List.getElem?_cons_zero, List.getElem?_cons_succ, List.set_cons_zero, List.set_cons_succ, List.append_nil, Nat.reduceAdd, Nat.reduceSub, true_and, and_true, DL.isNon, Bool.false_eq_true, ↓reduceIte, Bool.not_true, Bool.not_false])
  refine given_ok ?_
  refine ⟨rfl, by decide +kernel, ?_⟩
  rw [c1]
  rcases c3 with rfl | rfl | rfl
  · rw [show (false ^^ decide (("given" : Str) = "given")) = true by decide +kernel]
    simp only [↓reduceIte]
    refine w_fld rfl own'.mem (is_same (hr _) hi ?_)
    (simp (config := { decide := false }) only [↓dSeq, ↓dIfS, ↓dTst, ↓dOp, ↓dVar, ↓dK, ↓dCons, ↓dNil, ↓dCall, ↓dCl, ↓dAsg, ↓gN, ↓gT, ↓gsCons, ↓gsNil, ↓gSb, ↓dRet, ↓dNx, ↓dIf, ↓dTup, ↓dLst, ↓dOpn, ↓dTru, ↓dAnd, ↓dOr, ↓dNot, ↓dExp, ↓xk_at, ↓nx_at, ↓rt_at, ↓dNeg, ↓dE0, ↓dPrs, ↓dErr, ↓dEx0, ↓dAndV, ↓dOrV, ↓dNotV, fin, oGt, oLt, oGe, oLe, oMod, oMul, oSub, oFdv, oPow, oDivm, oAbs, oMax, oMin, r_int, r_bl, r_str, r_non, r_tup, r_lst, r_scr, r_dic, r_exn, w_add, w_oI, w_cmp, w_i1, w_i2, w_int, w_nl0, w_isN, w_notN, truB, List.map_cons, List.map_nil, List.length_cons, List.length_nil, List.cons_append, List.nil_append, List.getElem?_cons_zero, List.getElem?_cons_succ, List.set_cons_zero, List.set_cons_succ, List.append_nil, Nat.reduceAdd, Nat.reduceSub, true_and, and_true, DL.isNon, Bool.false_eq_true, ↓reduceIte, Bool.not_true, Bool.not_false])
    refine is_own_ok own' ?_
    (simp (config := { decide := false }) only [↓dSeq, ↓dIfS, ↓dTst, ↓dOp, ↓dVar, ↓dK, ↓dCons, ↓dNil, ↓dCall, ↓dCl, ↓dAsg, ↓gN, ↓gT, ↓gsCons, ↓gsNil, ↓gSb, ↓dRet, ↓dNx, ↓dIf, ↓dTup, ↓dLst, ↓dOpn, ↓dTru, ↓dAnd, ↓dOr, ↓dNot, ↓dExp, ↓xk_at, ↓nx_at, ↓rt_at, ↓dNeg, ↓dE0, ↓dPrs, ↓dErr, ↓dEx0, ↓dAndV, ↓dOrV, ↓dNotV, fin, oGt, oLt, oGe, oLe, oMod, oMul, oSub, oFdv, oPow, oDivm, oAbs, oMax, oMin, r_int, r_bl, r_str, r_non, r_tup, r_lst, r_scr, r_dic, r_exn, w_add, w_oI, w_cmp, w_i1, w_i2, w_int, w_nl0, w_isN, w_notN, truB, List.map_cons, List.map_nil, List.length_cons, List.length_nil, List.cons_append, List.nil_append, List.getElem?_cons_zero, List.getElem?_cons_succ, List.set_cons_zero, List.set_cons_succ, List.append_nil, Nat.reduceAdd, Nat.reduceSub, true_and, and_true, DL.isNon, Bool.false_eq_true, ↓reduceIte, Bool.not_true, Bool.not_false])
    exact hq _ _ _ _ hw hb
  · rw [show (false ^^ decide (("inputs" : Str) = "given")) = false by decide +kernel]
    simp only [Bool.false_eq_true, ↓reduceIte]
    refine eq_str own.so (by decide +kernel) ?_
    rw [c2, show decide (("inputs" : Str) = "inputs") = true by decide +kernel]
    simp only [↓reduceIte]
    refine w_fld rfl own'.mem (is_same (hr _) hi ?_)
    (simp (config := { decide := false }) only [↓dSeq, ↓dIfS, ↓dTst, ↓dOp, ↓dVar, ↓dK, ↓dCons, ↓dNil, ↓dCall, ↓dCl, ↓dAsg, ↓gN, ↓gT, ↓gsCons, ↓gsNil, ↓gSb, ↓dRet, ↓dNx, ↓dIf, ↓dTup, ↓dLst, ↓dOpn, ↓dTru, ↓dAnd, ↓dOr, ↓dNot, ↓dExp, ↓xk_at, ↓nx_at, ↓rt_at, ↓dNeg, ↓dE0, ↓dPrs, ↓dErr, ↓dEx0, ↓dAndV, ↓dOrV, ↓dNotV, fin, oGt, oLt, oGe, oLe, oMod, oMul, oSub, oFdv, oPow, oDivm, oAbs, oMax, oMin, r_int, r_bl, r_str, r_non, r_tup, r_lst, r_scr, r_dic, r_exn, w_add, w_oI, w_cmp, w_i1, w_i2, w_int, w_nl0, w_isN, w_notN, truB, List.map_cons, List.map_nil, List.length_cons, List.length_nil, List.cons_append, List.nil_append, List.getElem?_cons_zero, List.getElem?_cons_succ, List.set_cons_zero, List.set_cons_succ, List.append_nil, Nat.reduceAdd, Nat.reduceSub, true_and, and_true, DL.isNon, Bool.false_eq_true, ↓reduceIte, Bool.not_true, Bool.not_false])
    refine is_own_ok own' ?_
    (simp (config := { decide := false }) only [↓dSeq, ↓dIfS, ↓dTst, ↓dOp, ↓dVar, ↓dK, ↓dCons, ↓dNil, ↓dCall, ↓dCl, ↓dAsg, ↓gN, ↓gT, ↓gsCons, ↓gsNil, ↓gSb, ↓dRet, ↓dNx, ↓dIf, ↓dTup, ↓dLst, ↓dOpn, ↓dTru, ↓dAnd, ↓dOr, ↓dNot, ↓dExp, ↓xk_at, ↓nx_at, ↓rt_at, ↓dNeg, ↓dE0, ↓dPrs, ↓dErr, ↓dEx0, ↓dAndV, ↓dOrV, ↓dNotV, fin, oGt, oLt, oGe, oLe, oMod, oMul, oSub, oFdv, oPow, oDivm, oAbs, oMax, oMin, r_int, r_bl, r_str, r_non, r_tup, r_lst, r_scr, r_dic, r_exn, w_add, w_oI, w_cmp, w_i1, w_i2, w_int, w_nl0, w_isN, w_notN, truB, List.map_cons, List.map_nil, List.length_cons, List.length_nil, List.cons_append, List.nil_append, List.getElem?_cons_zero, List.getElem?_cons_succ, List.set_cons_zero, List.set_cons_succ, List.append_nil, Nat.reduceAdd, Nat.reduceSub, true_and, and_true, DL.isNon, Bool.false_eq_true, ↓reduceIte, Bool.not_true, Bool.not_false])
    exact hq _ _ _ _ hw hb
  · rw [show (false ^^ decide (("index" : Str) = "given")) = false by decide +kernel]
    simp only [Bool.false_eq_true, ↓reduceIte]
    refine eq_str own.so (by decide +kernel) ?_
    rw [c2, show decide (("index" : Str) = "inputs") = false by decide +kernel]
    simp only [Bool.false_eq_true, ↓reduceIte]
    refine w_fld rfl own'.mem (is_same (hr _) hi ?_)
    (simp (config := { decide := false }) only [↓dSeq, ↓dIfS, ↓dTst, ↓dOp, ↓dVar, ↓dK, ↓dCons, ↓dNil, ↓dCall, ↓dCl, ↓dAsg, ↓gN, ↓gT, ↓gsCons, ↓gsNil, ↓gSb, ↓dRet, ↓dNx, ↓dIf, ↓dTup, ↓dLst, ↓dOpn, ↓dTru, ↓dAnd, ↓dOr, ↓dNot, ↓dExp, ↓xk_at, ↓nx_at, ↓rt_at, ↓dNeg, ↓dE0, ↓dPrs, ↓dErr, ↓dEx0, ↓dAndV, ↓dOrV, ↓dNotV, fin, oGt, oLt, oGe, oLe, oMod, oMul, oSub, oFdv, oPow, oDivm, oAbs, oMax, oMin, r_int, r_bl, r_str, r_non, r_tup, r_lst, r_scr, r_dic, r_exn, w_add, w_oI, w_cmp, w_i1, w_i2, w_int, w_nl0, w_isN, w_notN, truB, List.map_cons, List.map_nil, List.length_cons, List.length_nil, List.cons_append, List.nil_append, List.getElem?_cons_zero, List.getElem?_cons_succ, List.set_cons_zero, List.set_cons_succ, List.append_nil, Nat.reduceAdd, Nat.reduceSub, true_and, and_true, DL.isNon, Bool.false_eq_true, ↓reduceIte, Bool.not_true, Bool.not_false])
    refine is_own_ok own' ?_
    (simp (config := { decide := false }) only [↓dSeq, ↓dIfS, ↓dTst, ↓dOp, ↓dVar, ↓dK, ↓dCons, ↓dNil, ↓dCall, ↓dCl, ↓dAsg, ↓gN, ↓gT, ↓gsCons, ↓gsNil, ↓gSb, ↓dRet, ↓dNx, ↓dIf, ↓dTup, ↓dLst, ↓dOpn, ↓dTru, ↓dAnd, ↓dOr, ↓dNot, ↓dExp, ↓xk_at, ↓nx_at, ↓rt_at, ↓dNeg, ↓dE0, ↓dPrs, ↓dErr, ↓dEx0, ↓dAndV, ↓dOrV, ↓dNotV, fin, oGt, oLt, oGe, oLe, oMod, oMul, oSub, oFdv, oPow, oDivm, oAbs, oMax, oMin, r_int, r_bl, r_str, r_non, r_tup, r_lst, r_scr, r_dic, r_exn, w_add, w_oI, w_cmp, w_i1, w_i2, w_int, w_nl0, w_isN, w_notN, truB, List.map_cons, List.map_nil, List.length_cons, List.length_nil, List.cons_append, List.nil_append, List.getElem?_cons_zero, List.getElem?_cons_succ, List.set_cons_zero, List.set_cons_succ, List.append_nil, Nat.reduceAdd, Nat.reduceSub, true_and, and_true, DL.isNon, Bool.false_eq_true, ↓reduceIte, Bool.not_true, Bool.not_false])
    exact hq _ _ _ _ hw hb
end K01
end

section
set_option Elab.async false
set_option linter.all false
set_option maxRecDepth 100000
set_option maxHeartbeats 400000
namespace K01
open PySem PySem.Spec L2 DL
open PyProof.Rows hiding St
abbrev bod : DTS := dSeq (dAsg (dCall sp__law_value (dCons (dVar 0) dNil)) (gN 3))
      (dSeq (dAsg (dCall sp__law_made (dCons (dVar 1) (dCons (dVar 3) (dCons (dVar 2) dNil)))) (gN 4))
      (dSeq (dAsg (dIf (dTst (dOp (oIn false) (dVar 1) (dCall sp__law_given dNil))) (dFld errs "given" (dVar 4)) (dIf (dTst (dOp oEq (dVar 1) (dK (.str "Wrong")))) (dFld errs "inputs" (dVar 4)) (dFld errs "index" (dVar 4)))) (gN 5))
      (dIfS (dOr (dNot (dTru (dCall sp__law_is (dCons (dVar 5) (dCons (dVar 3) dNil))))) (dNot (dTru (dCall sp__law_is_own (dCons (dVar 4) (dCons (dVar 1) dNil)))))) (dRet (dK (.bl false))) dNx)))
abbrev inn : DTS := dFor (dIt (dTup (dCons (dK (.bl false)) (dCons (dK (.bl true)) dNil)))) (gN 2) bod
theorem inn_ok {p : Addr} {w g : Str} {C : Addr} {b v e k : Option D} {ω : Sto} {DD : DEn} (hm : (w, C, g) ∈ tab) (h : Wl ω p) (hq : ∀ b' v' e' k' ω', Wl ω' p → Beside p ω ω' → DD.nx [some (.ref p), some (.str w), b', v', e', k'] ω') :
    inn DD [some (.ref p), some (.str w), b, v, e, k] ω := by
  show 2 ≤ sizeLine ∧ forL (gN 2) bod (fun _ => True) [.bl false, .bl true] DD _ ω
  refine ⟨sz (by decide), trivial, ?_⟩
  show bod _ [some (.ref p), some (.str w), some (.bl false), v, e, k] ω
  refine turn_ok hm h fun v' e' k' ω' hw hb => ⟨trivial, ?_⟩
  show bod _ [some (.ref p), some (.str w), some (.bl true), v', e', k'] ω'
  exact turn_ok hm hw fun v2 e2 k2 ω2 hw2 hb2 => ⟨trivial, hq _ _ _ _ _ hw2 (hb.trans hb2)⟩
theorem words_ok {p : Addr} {DD : DEn} {ω0 : Sto} (hq : ∀ a b v e k ω', Wl ω' p → Beside p ω0 ω' → DD.nx [some (.ref p), a, b, v, e, k] ω') : ∀ {l : List (Str × Addr × Str)} (_ : ∀ x ∈ l, x ∈ tab) {a b v e k : Option D} {ω : Sto} (_ : Wl ω p) (_ : Beside p ω0 ω),
    forL (gN 1) inn (fun _ => True) (l.map fun x => .str x.1) DD [some (.ref p), a, b, v, e, k] ω
  | [], _, a, b, v, e, k, ω, h, hb => ⟨trivial, hq _ _ _ _ _ _ h hb⟩
  | (w, C, g) :: l, hl, a, b, v, e, k, ω, h, hb => by
    refine ⟨trivial, ?_⟩
    show inn _ [some (.ref p), some (.str w), b, v, e, k] ω
    exact inn_ok (hl _ List.mem_cons_self) h fun b' v' e' k' ω' hw hb' => words_ok hq (fun x hx => hl x (List.mem_cons_of_mem _ hx)) hw (hb.trans hb')
theorem right_ok {p : Addr} {ω : Sto} {Q : DQ} {E : DX} (h : Wl ω p) (hq : ∀ ω', Beside p ω ω' → Q (.bl true) ω') : sp__law_right [.ref p] ω Q E := by
  ((unfold sp__law_right; (simp (config := { decide := false }) only [spB, beg, List.length_cons, List.length_nil, List.map_cons, List.map_nil, List.cons_append, List.nil_append, Nat.reduceAdd, Nat.reduceSub, Nat.sub_self, List.replicate_succ, List.replicate_zero, List.append_nil, true_and]); unfold t__law_right; (simp (config := { decide := false }) only [↓dSeq, ↓dIfS, ↓dTst, ↓dOp, ↓dVar, ↓dK, ↓dCons, ↓dNil, ↓dCall, ↓dCl, ↓dAsg, ↓gN, ↓gT, ↓gsCons, ↓gsNil, ↓gSb, ↓dRet, ↓dNx, ↓dIf, ↓dTup, ↓dLst, ↓dOpn, ↓dTru, ↓dAnd, ↓dOr, ↓dNot, ↓dExp, ↓xk_at, ↓nx_at, ↓rt_at, ↓dNeg, ↓dE0, ↓dPrs, ↓dErr, ↓dEx0, ↓dAndV, ↓dOrV, ↓dNotV, fin, oGt, oLt, oGe, oLe, oMod, oMul, oSub, oFdv, oPow, oDivm, oAbs, oMax, oMin, r_int, r_bl, r_str, r_non, r_tup, r_lst, r_scr, r_dic, r_exn, w_add, w_oI, w_cmp, w_i1, w_i2, w_int, w_nl0, w_isN, w_notN, truB, List.map_cons, List.map_nil, List.length_cons, List.length_nil, List.cons_append, List.nil_append, List.getElem?_cons_zero, List.getElem?_cons_succ, List.set_cons_zero, List.set_cons_succ, List.append_nil, Nat.reduceAdd, Nat.reduceSub, true_and, and_true, DL.isNon, Bool.false_eq_true, ↓reduceIte, Bool.not_true, Bool.not_false])))
  simp only [↓dFor, ↓dIt]
  (simp (config := { decide := false }) only [↓dSeq, ↓dIfS, ↓dTst, ↓dOp, ↓dVar, ↓dK, ↓dCons, ↓dNil, ↓dCall, ↓dCl, ↓dAsg, ↓gN, ↓gT, ↓gsCons, ↓gsNil, ↓gSb, ↓dRet, ↓dNx, ↓dIf, ↓dTup, ↓dLst, ↓dOpn, ↓dTru, ↓dAnd, ↓dOr, ↓dNot, ↓dExp, ↓xk_at, ↓nx_at, ↓rt_at, ↓dNeg, ↓dE0, ↓dPrs, ↓dErr, ↓dEx0, ↓dAndV, ↓dOrV, ↓dNotV, fin, oGt, oLt, oGe, oLe, oMod, oMul, oSub, oFdv, oPow, oDivm, oAbs, oMax, oMin, r_int, r_bl, r_str, r_non, r_tup, r_lst, r_scr, r_dic, r_exn, w_add, w_oI, w_cmp, w_i1, w_i2, w_int, w_nl0, w_isN, w_notN, truB, List.map_cons, List.map_nil, List.length_cons, List.length_nil, List.cons_append, List.nil_append, List.getElem?_cons_zero, List.getElem?_cons_succ, List.set_cons_zero, List.set_cons_succ, List.append_nil, Nat.reduceAdd, Nat.reduceSub, true_and, and_true, DL.isNon, Bool.false_eq_true, ↓reduceIte, Bool.not_true, Bool.not_false])
  refine given_ok (index_ok ?_)
  rw [w_addL, w_nl0]
  refine ⟨sz (by decide), sz (by decide), ?_⟩
  rw [w_addL, w_nl0]
  refine ⟨sz (by decide), ?_⟩
  show forL (gN 1) inn (fun _ => True) _ _ _ _
  refine words_ok (l := tab) (fun a b v e k ω' hw hb => ?_) (fun x hx => hx) h Beside.refl
  (simp (config := { decide := false }) only [↓dSeq, ↓dIfS, ↓dTst, ↓dOp, ↓dVar, ↓dK, ↓dCons, ↓dNil, ↓dCall, ↓dCl, ↓dAsg, ↓gN, ↓gT, ↓gsCons, ↓gsNil, ↓gSb, ↓dRet, ↓dNx, ↓dIf, ↓dTup, ↓dLst, ↓dOpn, ↓dTru, ↓dAnd, ↓dOr, ↓dNot, ↓dExp, ↓xk_at, ↓nx_at, ↓rt_at, ↓dNeg, ↓dE0, ↓dPrs, ↓dErr, ↓dEx0, ↓dAndV, ↓dOrV, ↓dNotV, fin, oGt, oLt, oGe, oLe, oMod, oMul, oSub, oFdv, oPow, oDivm, oAbs, oMax, oMin, r_int, r_bl, r_str, r_non, r_tup, r_lst, r_scr, r_dic, r_exn, w_add, w_oI, w_cmp, w_i1, w_i2, w_int, w_nl0, w_isN, w_notN, truB, List.map_cons, List.map_nil, List.length_cons, List.length_nil, List.cons_append, List.nil_append, List.getElem?_cons_zero, List.getElem?_cons_succ, List.set_cons_zero, List.set_cons_succ, List.append_nil, Nat.reduceAdd, Nat.reduceSub, true_and, and_true, DL.isNon, Bool.false_eq_true, ↓reduceIte, Bool.not_true, Bool.not_false])
  refine is_own_ok own_nl ?_
  (simp (config := { decide := false }) only [↓dSeq, ↓dIfS, ↓dTst, ↓dOp, ↓dVar, ↓dK, ↓dCons, ↓dNil, ↓dCall, ↓dCl, ↓dAsg, ↓gN, ↓gT, ↓gsCons, ↓gsNil, ↓gSb, ↓dRet, ↓dNx, ↓dIf, ↓dTup, ↓dLst, ↓dOpn, ↓dTru, ↓dAnd, ↓dOr, ↓dNot, ↓dExp, ↓xk_at, ↓nx_at, ↓rt_at, ↓dNeg, ↓dE0, ↓dPrs, ↓dErr, ↓dEx0, ↓dAndV, ↓dOrV, ↓dNotV, fin, oGt, oLt, oGe, oLe, oMod, oMul, oSub, oFdv, oPow, oDivm, oAbs, oMax, oMin, r_int, r_bl, r_str, r_non, r_tup, r_lst, r_scr, r_dic, r_exn, w_add, w_oI, w_cmp, w_i1, w_i2, w_int, w_nl0, w_isN, w_notN, truB, List.map_cons, List.map_nil, List.length_cons, List.length_nil, List.cons_append, List.nil_append, List.getElem?_cons_zero, List.getElem?_cons_succ, List.set_cons_zero, List.set_cons_succ, List.append_nil, Nat.reduceAdd, Nat.reduceSub, true_and, and_true, DL.isNon, Bool.false_eq_true, ↓reduceIte, Bool.not_true, Bool.not_false])
  refine is_own_ok own_en ?_
  (simp (config := { decide := false }) only [↓dSeq, ↓dIfS, ↓dTst, ↓dOp, ↓dVar, ↓dK, ↓dCons, ↓dNil, ↓dCall, ↓dCl, ↓dAsg, ↓gN, ↓gT, ↓gsCons, ↓gsNil, ↓gSb, ↓dRet, ↓dNx, ↓dIf, ↓dTup, ↓dLst, ↓dOpn, ↓dTru, ↓dAnd, ↓dOr, ↓dNot, ↓dExp, ↓xk_at, ↓nx_at, ↓rt_at, ↓dNeg, ↓dE0, ↓dPrs, ↓dErr, ↓dEx0, ↓dAndV, ↓dOrV, ↓dNotV, fin, oGt, oLt, oGe, oLe, oMod, oMul, oSub, oFdv, oPow, oDivm, oAbs, oMax, oMin, r_int, r_bl, r_str, r_non, r_tup, r_lst, r_scr, r_dic, r_exn, w_add, w_oI, w_cmp, w_i1, w_i2, w_int, w_nl0, w_isN, w_notN, truB, List.map_cons, List.map_nil, List.length_cons, List.length_nil, List.cons_append, List.nil_append, List.getElem?_cons_zero, List.getElem?_cons_succ, List.set_cons_zero, List.set_cons_succ, List.append_nil, Nat.reduceAdd, Nat.reduceSub, true_and, and_true, DL.isNon, Bool.false_eq_true, ↓reduceIte, Bool.not_true, Bool.not_false])
  refine is_own_ok own_nk ?_
  exact hq _ hb
theorem lap_ok {ns : List Int} {i : Int} {n : Sto → Prop} {D0 : Addr} {acc : List D} {ω : Sto} (h0 : 0 ≤ i) (h1 : i < 100) (hl : acc.length < 10) (h : ω D0 = some (.lst acc)) (hq : ∀ ω', ω' D0 = some (.lst (acc ++ [.bl true])) → n ω') :
    dCall sp__law_right (dCons (dCall sp__law_well (dCons (dVar 0) (dCons (dVar 1) dNil))) dNil) [some (.scr (ns.map .int)), some (.int i)] ω (lcAdd D0 n) X0 := by
  (simp (config := { decide := false }) only [↓dSeq, ↓dIfS, ↓dTst, ↓dOp, ↓dVar, ↓dK, ↓dCons, ↓dNil, ↓dCall, ↓dCl, ↓dAsg, ↓gN, ↓gT, ↓gsCons, ↓gsNil, ↓gSb, ↓dRet, ↓dNx, ↓dIf, ↓dTup, ↓dLst, ↓dOpn, ↓dTru, ↓dAnd, ↓dOr, ↓dNot, ↓dExp, ↓xk_at, ↓nx_at, ↓rt_at, ↓dNeg, ↓dE0, ↓dPrs, ↓dErr, ↓dEx0, ↓dAndV, ↓dOrV, ↓dNotV, fin, oGt, oLt, oGe, oLe, oMod, oMul, oSub, oFdv, oPow, oDivm, oAbs, oMax, oMin, r_int, r_bl, r_str, r_non, r_tup, r_lst, r_scr, r_dic, r_exn, w_add, w_oI, w_cmp, w_i1, w_i2, w_int, w_nl0, w_isN, w_notN, truB, List.map_cons, List.map_nil, List.length_cons, List.length_nil, List.cons_append, List.nil_append, List.getElem?_cons_zero, List.getElem?_cons_succ, List.set_cons_zero, List.set_cons_succ, List.append_nil, Nat.reduceAdd, Nat.reduceSub, true_and, and_true, DL.isNon, Bool.false_eq_true, ↓reduceIte, Bool.not_true, Bool.not_false])
  refine well_ok h0 h1 fun p np a b => ?_
  have ne : D0 ≠ p := fun z => by rw [z, np] at h; cases h
  refine right_ok (.mk put_same) fun ω' hb => ?_
  unfold lcAdd
  rw [hb D0 ne, put_ne ne, h]
  exact ⟨Nat.lt_of_lt_of_le hl (sz (by decide)), hq _ put_same⟩
theorem law_ok (ns : List Int) (hl : ns.length ≤ 63) : sp_law [.scr (ns.map .int)] (fun _ => none) (fun d _ => d = .bl true) fun _ _ => False := by
  ((unfold sp_law; (simp (config := { decide := false }) only [spB, beg, List.length_cons, List.length_nil, List.map_cons, List.map_nil, List.cons_append, List.nil_append, Nat.reduceAdd, Nat.reduceSub, Nat.sub_self, List.replicate_succ, List.replicate_zero, List.append_nil, true_and]); unfold t_law; (simp (config := { decide := false }) only [↓dSeq, ↓dIfS, ↓dTst, ↓dOp, ↓dVar, ↓dK, ↓dCons, ↓dNil, ↓dCall, ↓dCl, ↓dAsg, ↓gN, ↓gT, ↓gsCons, ↓gsNil, ↓gSb, ↓dRet, ↓dNx, ↓dIf, ↓dTup, ↓dLst, ↓dOpn, ↓dTru, ↓dAnd, ↓dOr, ↓dNot, ↓dExp, ↓xk_at, ↓nx_at, ↓rt_at, ↓dNeg, ↓dE0, ↓dPrs, ↓dErr, ↓dEx0, ↓dAndV, ↓dOrV, ↓dNotV, fin, oGt, oLt, oGe, oLe, oMod, oMul, oSub, oFdv, oPow, oDivm, oAbs, oMax, oMin, r_int, r_bl, r_str, r_non, r_tup, r_lst, r_scr, r_dic, r_exn, w_add, w_oI, w_cmp, w_i1, w_i2, w_int, w_nl0, w_isN, w_notN, truB, List.map_cons, List.map_nil, List.length_cons, List.length_nil, List.cons_append, List.nil_append, List.getElem?_cons_zero, List.getElem?_cons_succ, List.set_cons_zero, List.set_cons_succ, List.append_nil, Nat.reduceAdd, Nat.reduceSub, true_and, and_true, DL.isNon, Bool.false_eq_true, ↓reduceIte, Bool.not_true, Bool.not_false])))
  simp only [↓dLc, ↓dRng1]
  (simp (config := { decide := false }) only [↓dSeq, ↓dIfS, ↓dTst, ↓dOp, ↓dVar, ↓dK, ↓dCons, ↓dNil, ↓dCall, ↓dCl, ↓dAsg, ↓gN, ↓gT, ↓gsCons, ↓gsNil, ↓gSb, ↓dRet, ↓dNx, ↓dIf, ↓dTup, ↓dLst, ↓dOpn, ↓dTru, ↓dAnd, ↓dOr, ↓dNot, ↓dExp, ↓xk_at, ↓nx_at, ↓rt_at, ↓dNeg, ↓dE0, ↓dPrs, ↓dErr, ↓dEx0, ↓dAndV, ↓dOrV, ↓dNotV, fin, oGt, oLt, oGe, oLe, oMod, oMul, oSub, oFdv, oPow, oDivm, oAbs, oMax, oMin, r_int, r_bl, r_str, r_non, r_tup, r_lst, r_scr, r_dic, r_exn, w_add, w_oI, w_cmp, w_i1, w_i2, w_int, w_nl0, w_isN, w_notN, truB, List.map_cons, List.map_nil, List.length_cons, List.length_nil, List.cons_append, List.nil_append, List.getElem?_cons_zero, List.getElem?_cons_succ, List.set_cons_zero, List.set_cons_succ, List.append_nil, Nat.reduceAdd, Nat.reduceSub, true_and, and_true, DL.isNon, Bool.false_eq_true, ↓reduceIte, Bool.not_true, Bool.not_false])
  refine w_lenS (ds := ns.map D.int) rfl ?_
  (simp (config := { decide := false }) only [↓dSeq, ↓dIfS, ↓dTst, ↓dOp, ↓dVar, ↓dK, ↓dCons, ↓dNil, ↓dCall, ↓dCl, ↓dAsg, ↓gN, ↓gT, ↓gsCons, ↓gsNil, ↓gSb, ↓dRet, ↓dNx, ↓dIf, ↓dTup, ↓dLst, ↓dOpn, ↓dTru, ↓dAnd, ↓dOr, ↓dNot, ↓dExp, ↓xk_at, ↓nx_at, ↓rt_at, ↓dNeg, ↓dE0, ↓dPrs, ↓dErr, ↓dEx0, ↓dAndV, ↓dOrV, ↓dNotV, fin, oGt, oLt, oGe, oLe, oMod, oMul, oSub, oFdv, oPow, oDivm, oAbs, oMax, oMin, r_int, r_bl, r_str, r_non, r_tup, r_lst, r_scr, r_dic, r_exn, w_add, w_oI, w_cmp, w_i1, w_i2, w_int, w_nl0, w_isN, w_notN, truB, List.map_cons, List.map_nil, List.length_cons, List.length_nil, List.cons_append, List.nil_append, List.getElem?_cons_zero, List.getElem?_cons_succ, List.set_cons_zero, List.set_cons_succ, List.append_nil, Nat.reduceAdd, Nat.reduceSub, true_and, and_true, DL.isNon, Bool.false_eq_true, ↓reduceIte, Bool.not_true, Bool.not_false])
  rw [List.length_map]
  have fin : ∀ (m : Nat) (_ : m = 1 ∨ m = 2), ∀ D0 : Addr, lcL D0 (gN 1) dYes (dCall sp__law_right (dCons (dCall sp__law_well (dCons (dVar 0) (dCons (dVar 1) dNil))) dNil)) (fun _ => True) [some (.scr (ns.map .int)), none]
      (lcEnd false D0 fun d ω1 => oAll [d] ω1 fun d _ => d = .bl true) (rng 0 m) (put (fun _ => none) D0 (.lst [])) := by
    rintro m (rfl | rfl) D0
    · refine ⟨trivial, ?_⟩
      refine lap_ok (i := 0) (by decide) (by decide) (by decide) put_same fun ω' h' => ⟨trivial, ?_⟩
      unfold lcEnd
      rw [h']
      rfl
    · refine ⟨trivial, ?_⟩
      refine lap_ok (i := 0) (by decide) (by decide) (by decide) put_same fun ω' h' => ⟨trivial, ?_⟩
      refine lap_ok (i := 1) (by decide) (by decide) (by decide) h' fun ω2 h2 => ⟨trivial, ?_⟩
      unfold lcEnd
      rw [h2]
      rfl
  have hm : (if (if (2 : Int) < (ns.length : Int) then (2 : Int) else (ns.length : Int)) > 1 then (if (2 : Int) < (ns.length : Int) then (2 : Int) else (ns.length : Int)) else 1) = 1 ∨
      (if (if (2 : Int) < (ns.length : Int) then (2 : Int) else (ns.length : Int)) > 1 then (if (2 : Int) < (ns.length : Int) then (2 : Int) else (ns.length : Int)) else 1) = 2 := by
    by_cases a : (2 : Int) < (ns.length : Int)
    · right; rw [if_pos a]; rfl
    · rw [if_neg a]
      by_cases b : (ns.length : Int) > 1
      · right; rw [if_pos b]; omega
      · left; rw [if_neg b]
  rcases hm with e | e
  · rw [e]; exact ⟨⟨by decide, by decide⟩, fun D0 _ => fin 1 (.inl rfl) D0⟩
  · rw [e]; exact ⟨⟨by decide, by decide⟩, fun D0 _ => fin 2 (.inr rfl) D0⟩
end K01
end

section
set_option Elab.async false
set_option linter.all false
set_option maxRecDepth 100000
set_option maxHeartbeats 4000000
namespace K01
open PySem PySem.Spec L2 DL
open PyProof.Rows hiding St
theorem ini_InvalidText : IniS "given" (meth (top 2)) := by (exact ⟨⟨_, _, _, _, _, _, _, _, _, _, rfl, rfl⟩, rfl, rfl, rfl, by decide +kernel, rfl, rfl, rfl, rfl, rfl, fun _ _ _ _ _ _ _ _ _ _ _ => rfl, fun _ _ _ _ _ _ _ _ _ _ _ => rfl, by decide, by decide⟩)
theorem ini_InvalidProgram : IniS "given" (meth (top 3)) := by (exact ⟨⟨_, _, _, _, _, _, _, _, _, _, rfl, rfl⟩, rfl, rfl, rfl, by decide +kernel, rfl, rfl, rfl, rfl, rfl, fun _ _ _ _ _ _ _ _ _ _ _ => rfl, fun _ _ _ _ _ _ _ _ _ _ _ => rfl, by decide, by decide⟩)
theorem ini_InvalidExpression : IniS "given" (meth (top 4)) := by (exact ⟨⟨_, _, _, _, _, _, _, _, _, _, rfl, rfl⟩, rfl, rfl, rfl, by decide +kernel, rfl, rfl, rfl, rfl, rfl, fun _ _ _ _ _ _ _ _ _ _ _ => rfl, fun _ _ _ _ _ _ _ _ _ _ _ => rfl, by decide, by decide⟩)
theorem ini_InvalidNumber : IniS "given" (meth (top 5)) := by (exact ⟨⟨_, _, _, _, _, _, _, _, _, _, rfl, rfl⟩, rfl, rfl, rfl, by decide +kernel, rfl, rfl, rfl, rfl, rfl, fun _ _ _ _ _ _ _ _ _ _ _ => rfl, fun _ _ _ _ _ _ _ _ _ _ _ => rfl, by decide, by decide⟩)
theorem ini_InvalidImage : IniS "given" (meth (top 6)) := by (exact ⟨⟨_, _, _, _, _, _, _, _, _, _, rfl, rfl⟩, rfl, rfl, rfl, by decide +kernel, rfl, rfl, rfl, rfl, rfl, fun _ _ _ _ _ _ _ _ _ _ _ => rfl, fun _ _ _ _ _ _ _ _ _ _ _ => rfl, by decide, by decide⟩)
theorem ini_InvalidTable : IniS "given" (meth (top 7)) := by (exact ⟨⟨_, _, _, _, _, _, _, _, _, _, rfl, rfl⟩, rfl, rfl, rfl, by decide +kernel, rfl, rfl, rfl, rfl, rfl, fun _ _ _ _ _ _ _ _ _ _ _ => rfl, fun _ _ _ _ _ _ _ _ _ _ _ => rfl, by decide, by decide⟩)
theorem ini_InvalidDump : IniS "given" (meth (top 8)) := by (exact ⟨⟨_, _, _, _, _, _, _, _, _, _, rfl, rfl⟩, rfl, rfl, rfl, by decide +kernel, rfl, rfl, rfl, rfl, rfl, fun _ _ _ _ _ _ _ _ _ _ _ => rfl, fun _ _ _ _ _ _ _ _ _ _ _ => rfl, by decide, by decide⟩)
theorem ini_InvalidPoint : IniS "given" (meth (top 9)) := by (exact ⟨⟨_, _, _, _, _, _, _, _, _, _, rfl, rfl⟩, rfl, rfl, rfl, by decide +kernel, rfl, rfl, rfl, rfl, rfl, fun _ _ _ _ _ _ _ _ _ _ _ => rfl, fun _ _ _ _ _ _ _ _ _ _ _ => rfl, by decide, by decide⟩)
theorem ini_InvalidRow : IniS "given" (meth (top 10)) := by (exact ⟨⟨_, _, _, _, _, _, _, _, _, _, rfl, rfl⟩, rfl, rfl, rfl, by decide +kernel, rfl, rfl, rfl, rfl, rfl, fun _ _ _ _ _ _ _ _ _ _ _ => rfl, fun _ _ _ _ _ _ _ _ _ _ _ => rfl, by decide, by decide⟩)
theorem ini_InvalidFormula : IniS "given" (meth (top 11)) := by (exact ⟨⟨_, _, _, _, _, _, _, _, _, _, rfl, rfl⟩, rfl, rfl, rfl, by decide +kernel, rfl, rfl, rfl, rfl, rfl, fun _ _ _ _ _ _ _ _ _ _ _ => rfl, fun _ _ _ _ _ _ _ _ _ _ _ => rfl, by decide, by decide⟩)
theorem ini_InvalidPacked : IniS "given" (meth (top 12)) := by (exact ⟨⟨_, _, _, _, _, _, _, _, _, _, rfl, rfl⟩, rfl, rfl, rfl, by decide +kernel, rfl, rfl, rfl, rfl, rfl, fun _ _ _ _ _ _ _ _ _ _ _ => rfl, fun _ _ _ _ _ _ _ _ _ _ _ => rfl, by decide, by decide⟩)
theorem ini_InvalidStand : IniS "given" (meth (top 13)) := by (exact ⟨⟨_, _, _, _, _, _, _, _, _, _, rfl, rfl⟩, rfl, rfl, rfl, by decide +kernel, rfl, rfl, rfl, rfl, rfl, fun _ _ _ _ _ _ _ _ _ _ _ => rfl, fun _ _ _ _ _ _ _ _ _ _ _ => rfl, by decide, by decide⟩)
theorem ini_InvalidCommand : IniS "given" (meth (top 14)) := by (exact ⟨⟨_, _, _, _, _, _, _, _, _, _, rfl, rfl⟩, rfl, rfl, rfl, by decide +kernel, rfl, rfl, rfl, rfl, rfl, fun _ _ _ _ _ _ _ _ _ _ _ => rfl, fun _ _ _ _ _ _ _ _ _ _ _ => rfl, by decide, by decide⟩)
theorem ini_UnknownName : IniS "given" (meth (top 15)) := by (exact ⟨⟨_, _, _, _, _, _, _, _, _, _, rfl, rfl⟩, rfl, rfl, rfl, by decide +kernel, rfl, rfl, rfl, rfl, rfl, fun _ _ _ _ _ _ _ _ _ _ _ => rfl, fun _ _ _ _ _ _ _ _ _ _ _ => rfl, by decide, by decide⟩)
theorem ini_TooMany : IniS "given" (meth (top 16)) := by (exact ⟨⟨_, _, _, _, _, _, _, _, _, _, rfl, rfl⟩, rfl, rfl, rfl, by decide +kernel, rfl, rfl, rfl, rfl, rfl, fun _ _ _ _ _ _ _ _ _ _ _ => rfl, fun _ _ _ _ _ _ _ _ _ _ _ => rfl, by decide, by decide⟩)
theorem ini_NotADesk : IniS "given" (meth (top 17)) := by (exact ⟨⟨_, _, _, _, _, _, _, _, _, _, rfl, rfl⟩, rfl, rfl, rfl, by decide +kernel, rfl, rfl, rfl, rfl, rfl, fun _ _ _ _ _ _ _ _ _ _ _ => rfl, fun _ _ _ _ _ _ _ _ _ _ _ => rfl, by decide, by decide⟩)
theorem ini_InvalidPasses : IniS "index" (meth (top 18)) := by (exact ⟨⟨_, _, _, _, _, _, _, _, _, _, rfl, rfl⟩, rfl, rfl, rfl, by decide +kernel, rfl, rfl, rfl, rfl, rfl, fun _ _ _ _ _ _ _ _ _ _ _ => rfl, fun _ _ _ _ _ _ _ _ _ _ _ => rfl, by decide, by decide⟩)
theorem ini_InvalidInputs : IniS "index" (meth (top 19)) := by (exact ⟨⟨_, _, _, _, _, _, _, _, _, _, rfl, rfl⟩, rfl, rfl, rfl, by decide +kernel, rfl, rfl, rfl, rfl, rfl, fun _ _ _ _ _ _ _ _ _ _ _ => rfl, fun _ _ _ _ _ _ _ _ _ _ _ => rfl, by decide, by decide⟩)
theorem ini_InvalidScript : IniS "index" (meth (top 20)) := by (exact ⟨⟨_, _, _, _, _, _, _, _, _, _, rfl, rfl⟩, rfl, rfl, rfl, by decide +kernel, rfl, rfl, rfl, rfl, rfl, fun _ _ _ _ _ _ _ _ _ _ _ => rfl, fun _ _ _ _ _ _ _ _ _ _ _ => rfl, by decide, by decide⟩)
theorem ini_Wrong : IniS "inputs" (meth (top 21)) := by (exact ⟨⟨_, _, _, _, _, _, _, _, _, _, rfl, rfl⟩, rfl, rfl, rfl, by decide +kernel, rfl, rfl, rfl, rfl, rfl, fun _ _ _ _ _ _ _ _ _ _ _ => rfl, fun _ _ _ _ _ _ _ _ _ _ _ => rfl, by decide, by decide⟩)
section
variable {P : Program} {w : World} {K : PySem.W.Frag} {mg : Str → Option Value} {h : Heap} {fa : Addr}
theorem use_all (hmg : mg "law" = some (.ref fa)) (m : Mf P K mg) (d__law_well : DefAt K mg "_law_well" (top 26) ["script", "lap"]) (d__law_draw : DefAt K mg "_law_draw" (top 27) ["well", "limit"]) (d__law_of : DefAt K mg "_law_of" (top 28) ["well", "some"]) (d__law_is : DefAt K mg "_law_is" (top 29) ["told", "due"]) (d__law_given : DefAt K mg "_law_given" (top 30) []) (d__law_index : DefAt K mg "_law_index" (top 31) []) (d__law_value : DefAt K mg "_law_value" (top 32) ["well"]) (d__law_made_a : DefAt K mg "_law_made_a" (top 33) ["word", "value", "is_named"]) (d__law_made_b : DefAt K mg "_law_made_b" (top 34) ["word", "value", "is_named"]) (d__law_made : DefAt K mg "_law_made" (top 35) ["word", "value", "is_named"]) (d__law_kinds_a : DefAt K mg "_law_kinds_a" (top 36) ["e"]) (d__law_kinds_b : DefAt K mg "_law_kinds_b" (top 37) ["e"]) (d__law_is_own : DefAt K mg "_law_is_own" (top 38) ["e", "word"]) (d__law_right : DefAt K mg "_law_right" (top 39) ["well"]) (d_law : DefAt K mg "law" (top 40) ["script"]) :
    ∃ fd : FuncData, (∀ (s : Shared) (u : Value), BindsTo s fd ⟨[u], []⟩ [(("script" : Str), u)]) ∧ ∀ base : Heap, K.In base → base.Ns mainGlobals mg → FnG P w K mg base 5 fa fd ["script"] sp_law := by
  refine law_def (ps := []) (n := 0) d_law sc_law hmg (fun _ _ _ _ _ _ _ => rfl) fun base h1 h2 f cdv A fr s H E G => ?_
  have c__law_well := ok__law_well (P := P) (w := w) (base := base) m d__law_well 
  have c__law_draw := ok__law_draw (P := P) (w := w) (base := base) m d__law_draw 
  have c__law_of := ok__law_of (P := P) (w := w) (base := base) m d__law_of c__law_draw
  have c__law_is := ok__law_is (P := P) (w := w) (base := base) m d__law_is 
  have c__law_given := ok__law_given (P := P) (w := w) (base := base) m d__law_given 
  have c__law_index := ok__law_index (P := P) (w := w) (base := base) m d__law_index 
  have c__law_value := ok__law_value (P := P) (w := w) (base := base) m d__law_value c__law_of
  have c__law_made_a := ok__law_made_a (P := P) (w := w) (base := base) m d__law_made_a 
  have c__law_made_b := ok__law_made_b (P := P) (w := w) (base := base) m d__law_made_b 
  have c__law_made := ok__law_made (P := P) (w := w) (base := base) m d__law_made c__law_made_a c__law_made_b
  have c__law_kinds_a := ok__law_kinds_a (P := P) (w := w) (base := base) m d__law_kinds_a 
  have c__law_kinds_b := ok__law_kinds_b (P := P) (w := w) (base := base) m d__law_kinds_b 
  have c__law_is_own := ok__law_is_own (P := P) (w := w) (base := base) m d__law_is_own c__law_kinds_a c__law_kinds_b c__law_is
  have c__law_right := ok__law_right (P := P) (w := w) (base := base) m d__law_right c__law_given c__law_index c__law_value c__law_made c__law_is c__law_is_own
  exact wk_law m c__law_right c__law_well f cdv A fr s H E G
end
end K01
open PySem PySem.W PyProof.Rows DL in
theorem errC_mk {prog : Program} {K : Frag} {C : Addr} {g : Str} {st : Stmt} {nm q : Str} {N : Addr} {bs bm : List Value} {sn : List Str} {sub : List Value} {ab : Bool} {col : Option Bool} {dd : Option Addr} {k0 k1 k2 k3 k5 : Option Value}
    {fI cda cc : Addr} {qual : Str} {oc : Value} {od : Option Addr} {kV doc pm : Value} {an : Option Addr} {ct : Value} {osl : Array (Option Value)} {ccl : Value} {cdd : Option Addr} {vs : Array Value} {ccs : Array (Option Value)} {file : Str} {tf : Tok} {cl : Value} {cld : Option Addr} {csl : Array (Option Value)}
    (e1 : K.lookup C = some (excClassObj nm q C N bs bm true sn sub ab col dd k0 k1 k2 k3 k5 "ValueError.__new__")) (e2 : HandSPX.refsVE bm = true) (e3 : findIn K (.ref C) "__setattr__" = some (some (.builtin "object.__setattr__"))) (e4 : keepIn K (.ref C) = true)
    (e5 : findIn K (.ref C) "__init__" = some (some (.ref fI))) (e6 : typeIn K (.ref fI) = some (.type "function"))
    (e7 : K.lookup fI = some ⟨oc, od, .func (ksFn "__init__" qual (L2.defArgs st) (L2.defBody st) (L2.defScope st) .none kV doc pm an (.ref cda) ct cc), osl⟩) (e8 : codeIn K (.ref cda) qual = true)
    (e9 : K.lookup cda = some ⟨ccl, cdd, .fields vs, ccs⟩) (f1 : vs[2]? = some (.str file tf)) (f2 : ((prog.main.file : Str) == file) = true) (f3 : K.lookup cc = some ⟨cl, cld, .cell (some (.ref C)), csl⟩) (f4 : (prog.main.scope.names.lookup ("super" : Str)).isSome = false)
    (f5 : ks_superIn K C C "__init__" = some (some (.builtin "ValueError.__init__"))) (f6 : nsIn K cStatics "thirdparty.any" = some none) (f7 : subIn K (.ref C) (.type "ValueError") = some true) (f8 : mroIn K C (.ref C) = some true) (f9 : findIn K (.ref C) g = some none) : ErrC prog K C g st :=
  ⟨⟨_, _, _, _, _, _, _, _, _, _, _, _, _, _, _, e1, e2⟩, e3, e4, ⟨_, _, _, _, _, _, _, _, _, _, _, _, e5, e6, e7, e8, ⟨_, _, _, _, _, _, e9, f1, f2⟩, ⟨_, _, _, f3⟩⟩, f4, f5, f6, f7, f8, f9⟩
open PySem PySem.W PyProof.Rows DL in
theorem excK_mk {K : Frag} {S C : Addr} {cd : ClassData} (e1 : clsIn K C = some cd) (e2 : cd.mro = .ref C :: .ref S :: HandSPX.veTail) (e3 : typeIn K (.ref C) = some (.type "type")) (e4 : findIn K (.ref C) "__getattribute__" = some (some (.builtin "BaseException.__getattribute__")))
    (e5 : findIn K (.ref C) "__getattr__" = some none) (e6 : hasDictIn K C = true) (e7 : findIn K (.ref C) "__class__" = some (some (.builtin "object.__class__"))) : ExcK K S C := ⟨⟨_, e1, e2⟩, e3, e4, e5, e6, e7⟩
open PySem PySem.W PyProof.Rows
set_option maxHeartbeats 0 in
theorem PySem.Challenge.cw_plainstops_k01_errors_each_of_its_own_holds : PySem.Challenge.rw_plainstops_k01_errors_each_of_its_own.Holds := by
  refine hd ?_
  k_fill
  refine DL.walk_ofG (k := 5) (dsp := K01.sp_law) (n := 63) (x := "script") rfl (by decide +kernel) rfl ⟨rfl, by decide, by decide⟩ (fun w h Y => PySem.W.kIn_of Y) ?F (fun ns hl => K01.law_ok ns hl)
  case F =>
    intro w mg fa h KX G hmg
    refine K01.use_all hmg ?m ?d__law_well ?d__law_draw ?d__law_of ?d__law_is ?d__law_given ?d__law_index ?d__law_value ?d__law_made_a ?d__law_made_b ?d__law_made ?d__law_kinds_a ?d__law_kinds_b ?d__law_is_own ?d__law_right ?d_law
    case d__law_well => ((refine' DL.defAt_mk KX G (fun _ _ _ _ _ _ us hl => match us, hl with | [_, _], _ => rfl) ?ka ?kl ?kc ?kk; (case ka => k_is); (case kl => k_is); (case kc => k_is); (case kk => k_is)))
    case d__law_draw => ((refine' DL.defAt_mk KX G (fun _ _ _ _ _ _ us hl => match us, hl with | [_, _], _ => rfl) ?ka ?kl ?kc ?kk; (case ka => k_is); (case kl => k_is); (case kc => k_is); (case kk => k_is)))
    case d__law_of => ((refine' DL.defAt_mk KX G (fun _ _ _ _ _ _ us hl => match us, hl with | [_, _], _ => rfl) ?ka ?kl ?kc ?kk; (case ka => k_is); (case kl => k_is); (case kc => k_is); (case kk => k_is)))
    case d__law_is => ((refine' DL.defAt_mk KX G (fun _ _ _ _ _ _ us hl => match us, hl with | [_, _], _ => rfl) ?ka ?kl ?kc ?kk; (case ka => k_is); (case kl => k_is); (case kc => k_is); (case kk => k_is)))
    case d__law_given => ((refine' DL.defAt_mk KX G (fun _ _ _ _ _ _ us hl => match us, hl with | [], _ => rfl) ?ka ?kl ?kc ?kk; (case ka => k_is); (case kl => k_is); (case kc => k_is); (case kk => k_is)))
    case d__law_index => ((refine' DL.defAt_mk KX G (fun _ _ _ _ _ _ us hl => match us, hl with | [], _ => rfl) ?ka ?kl ?kc ?kk; (case ka => k_is); (case kl => k_is); (case kc => k_is); (case kk => k_is)))
    case d__law_value => ((refine' DL.defAt_mk KX G (fun _ _ _ _ _ _ us hl => match us, hl with | [_], _ => rfl) ?ka ?kl ?kc ?kk; (case ka => k_is); (case kl => k_is); (case kc => k_is); (case kk => k_is)))
    case d__law_made_a => ((refine' DL.defAt_mk KX G (fun _ _ _ _ _ _ us hl => match us, hl with | [_, _, _], _ => rfl) ?ka ?kl ?kc ?kk; (case ka => k_is); (case kl => k_is); (case kc => k_is); (case kk => k_is)))
    case d__law_made_b => ((refine' DL.defAt_mk KX G (fun _ _ _ _ _ _ us hl => match us, hl with | [_, _, _], _ => rfl) ?ka ?kl ?kc ?kk; (case ka => k_is); (case kl => k_is); (case kc => k_is); (case kk => k_is)))
    case d__law_made => ((refine' DL.defAt_mk KX G (fun _ _ _ _ _ _ us hl => match us, hl with | [_, _, _], _ => rfl) ?ka ?kl ?kc ?kk; (case ka => k_is); (case kl => k_is); (case kc => k_is); (case kk => k_is)))
    case d__law_kinds_a => ((refine' DL.defAt_mk KX G (fun _ _ _ _ _ _ us hl => match us, hl with | [_], _ => rfl) ?ka ?kl ?kc ?kk; (case ka => k_is); (case kl => k_is); (case kc => k_is); (case kk => k_is)))
    case d__law_kinds_b => ((refine' DL.defAt_mk KX G (fun _ _ _ _ _ _ us hl => match us, hl with | [_], _ => rfl) ?ka ?kl ?kc ?kk; (case ka => k_is); (case kl => k_is); (case kc => k_is); (case kk => k_is)))
    case d__law_is_own => ((refine' DL.defAt_mk KX G (fun _ _ _ _ _ _ us hl => match us, hl with | [_, _], _ => rfl) ?ka ?kl ?kc ?kk; (case ka => k_is); (case kl => k_is); (case kc => k_is); (case kk => k_is)))
    case d__law_right => ((refine' DL.defAt_mk KX G (fun _ _ _ _ _ _ us hl => match us, hl with | [_], _ => rfl) ?ka ?kl ?kc ?kk; (case ka => k_is); (case kl => k_is); (case kc => k_is); (case kk => k_is)))
    case d_law => ((refine' DL.defAt_mk KX G (fun _ _ _ _ _ _ us hl => match us, hl with | [_], _ => rfl) ?ka ?kl ?kc ?kk; (case ka => k_is); (case kl => k_is); (case kc => k_is); (case kk => k_is)))
    case m =>
      constructor
      case b_int => refine mg_none_of KX G ?_; k_is
      case b_len => refine mg_none_of KX G ?_; k_is
      case b_abs => refine mg_none_of KX G ?_; k_is
      case b_divmod => refine mg_none_of KX G ?_; k_is
      case b_repr => refine mg_none_of KX G ?_; k_is
      case b_isinstance => refine mg_none_of KX G ?_; k_is
      case b_RuntimeError => refine mg_none_of KX G ?_; k_is
      case b_AttributeError => refine mg_none_of KX G ?_; k_is
      case b_ArithmeticError => refine mg_none_of KX G ?_; k_is
      case b_LookupError => refine mg_none_of KX G ?_; k_is
      case b_TypeError => refine mg_none_of KX G ?_; k_is
      case b_ValueError => refine mg_none_of KX G ?_; k_is
      case b_all => refine mg_none_of KX G ?_; k_is
      case b_range => refine mg_none_of KX G ?_; k_is
      case b_max => refine mg_none_of KX G ?_; k_is
      case b_min => refine mg_none_of KX G ?_; k_is
      case g_InvalidText => refine mg_of KX G ?_; k_is
      case g_InvalidProgram => refine mg_of KX G ?_; k_is
      case g_InvalidExpression => refine mg_of KX G ?_; k_is
      case g_InvalidNumber => refine mg_of KX G ?_; k_is
      case g_InvalidImage => refine mg_of KX G ?_; k_is
      case g_InvalidTable => refine mg_of KX G ?_; k_is
      case g_InvalidDump => refine mg_of KX G ?_; k_is
      case g_InvalidPoint => refine mg_of KX G ?_; k_is
      case g_InvalidRow => refine mg_of KX G ?_; k_is
      case g_InvalidFormula => refine mg_of KX G ?_; k_is
      case g_InvalidPacked => refine mg_of KX G ?_; k_is
      case g_InvalidStand => refine mg_of KX G ?_; k_is
      case g_InvalidCommand => refine mg_of KX G ?_; k_is
      case g_UnknownName => refine mg_of KX G ?_; k_is
      case g_TooMany => refine mg_of KX G ?_; k_is
      case g_NotADesk => refine mg_of KX G ?_; k_is
      case g_InvalidPasses => refine mg_of KX G ?_; k_is
      case g_InvalidInputs => refine mg_of KX G ?_; k_is
      case g_InvalidScript => refine mg_of KX G ?_; k_is
      case g_Wrong => refine mg_of KX G ?_; k_is
      case g_NotLet => refine mg_of KX G ?_; k_is
      case g_Ended => refine mg_of KX G ?_; k_is
      case g_NotKept => refine mg_of KX G ?_; k_is
      case g_StopError => refine mg_of KX G ?_; k_is
      case e_InvalidText => exact ⟨K01.ini_InvalidText, by ((refine' errC_mk ?e1 ?e2 ?e3 ?e4 ?e5 ?e6 ?e7 ?e8 ?e9 ?f1 ?f2 ?f3 ?f4 ?f5 ?f6 ?f7 ?f8 ?f9; (case e1 => k_is); (case e2 => decide +kernel); (case e3 => k_is); (case e4 => k_is); (case e5 => k_is); (case e6 => k_is); (case e7 => k_is); (case e8 => k_is); (case e9 => k_is); (case f1 => rfl); (case f2 => decide +kernel); (case f3 => k_is); (case f4 => decide +kernel); (case f5 => ks_is); (case f6 => k_is); (case f7 => k_is); (case f8 => k_is); (case f9 => k_is))), by refine mg_none_of KX G ?_; k_is⟩
      case e_InvalidProgram => exact ⟨K01.ini_InvalidProgram, by ((refine' errC_mk ?e1 ?e2 ?e3 ?e4 ?e5 ?e6 ?e7 ?e8 ?e9 ?f1 ?f2 ?f3 ?f4 ?f5 ?f6 ?f7 ?f8 ?f9; (case e1 => k_is); (case e2 => decide +kernel); (case e3 => k_is); (case e4 => k_is); (case e5 => k_is); (case e6 => k_is); (case e7 => k_is); (case e8 => k_is); (case e9 => k_is); (case f1 => rfl); (case f2 => decide +kernel); (case f3 => k_is); (case f4 => decide +kernel); (case f5 => ks_is); (case f6 => k_is); (case f7 => k_is); (case f8 => k_is); (case f9 => k_is))), by refine mg_none_of KX G ?_; k_is⟩
      case e_InvalidExpression => exact ⟨K01.ini_InvalidExpression, by ((refine' errC_mk ?e1 ?e2 ?e3 ?e4 ?e5 ?e6 ?e7 ?e8 ?e9 ?f1 ?f2 ?f3 ?f4 ?f5 ?f6 ?f7 ?f8 ?f9; (case e1 => k_is); (case e2 => decide +kernel); (case e3 => k_is); (case e4 => k_is); (case e5 => k_is); (case e6 => k_is); (case e7 => k_is); (case e8 => k_is); (case e9 => k_is); (case f1 => rfl); (case f2 => decide +kernel); (case f3 => k_is); (case f4 => decide +kernel); (case f5 => ks_is); (case f6 => k_is); (case f7 => k_is); (case f8 => k_is); (case f9 => k_is))), by refine mg_none_of KX G ?_; k_is⟩
      case e_InvalidNumber => exact ⟨K01.ini_InvalidNumber, by ((refine' errC_mk ?e1 ?e2 ?e3 ?e4 ?e5 ?e6 ?e7 ?e8 ?e9 ?f1 ?f2 ?f3 ?f4 ?f5 ?f6 ?f7 ?f8 ?f9; (case e1 => k_is); (case e2 => decide +kernel); (case e3 => k_is); (case e4 => k_is); (case e5 => k_is); (case e6 => k_is); (case e7 => k_is); (case e8 => k_is); (case e9 => k_is); (case f1 => rfl); (case f2 => decide +kernel); (case f3 => k_is); (case f4 => decide +kernel); (case f5 => ks_is); (case f6 => k_is); (case f7 => k_is); (case f8 => k_is); (case f9 => k_is))), by refine mg_none_of KX G ?_; k_is⟩
      case e_InvalidImage => exact ⟨K01.ini_InvalidImage, by ((refine' errC_mk ?e1 ?e2 ?e3 ?e4 ?e5 ?e6 ?e7 ?e8 ?e9 ?f1 ?f2 ?f3 ?f4 ?f5 ?f6 ?f7 ?f8 ?f9; (case e1 => k_is); (case e2 => decide +kernel); (case e3 => k_is); (case e4 => k_is); (case e5 => k_is); (case e6 => k_is); (case e7 => k_is); (case e8 => k_is); (case e9 => k_is); (case f1 => rfl); (case f2 => decide +kernel); (case f3 => k_is); (case f4 => decide +kernel); (case f5 => ks_is); (case f6 => k_is); (case f7 => k_is); (case f8 => k_is); (case f9 => k_is))), by refine mg_none_of KX G ?_; k_is⟩
      case e_InvalidTable => exact ⟨K01.ini_InvalidTable, by ((refine' errC_mk ?e1 ?e2 ?e3 ?e4 ?e5 ?e6 ?e7 ?e8 ?e9 ?f1 ?f2 ?f3 ?f4 ?f5 ?f6 ?f7 ?f8 ?f9; (case e1 => k_is); (case e2 => decide +kernel); (case e3 => k_is); (case e4 => k_is); (case e5 => k_is); (case e6 => k_is); (case e7 => k_is); (case e8 => k_is); (case e9 => k_is); (case f1 => rfl); (case f2 => decide +kernel); (case f3 => k_is); (case f4 => decide +kernel); (case f5 => ks_is); (case f6 => k_is); (case f7 => k_is); (case f8 => k_is); (case f9 => k_is))), by refine mg_none_of KX G ?_; k_is⟩
      case e_InvalidDump => exact ⟨K01.ini_InvalidDump, by ((refine' errC_mk ?e1 ?e2 ?e3 ?e4 ?e5 ?e6 ?e7 ?e8 ?e9 ?f1 ?f2 ?f3 ?f4 ?f5 ?f6 ?f7 ?f8 ?f9; (case e1 => k_is); (case e2 => decide +kernel); (case e3 => k_is); (case e4 => k_is); (case e5 => k_is); (case e6 => k_is); (case e7 => k_is); (case e8 => k_is); (case e9 => k_is); (case f1 => rfl); (case f2 => decide +kernel); (case f3 => k_is); (case f4 => decide +kernel); (case f5 => ks_is); (case f6 => k_is); (case f7 => k_is); (case f8 => k_is); (case f9 => k_is))), by refine mg_none_of KX G ?_; k_is⟩
      case e_InvalidPoint => exact ⟨K01.ini_InvalidPoint, by ((refine' errC_mk ?e1 ?e2 ?e3 ?e4 ?e5 ?e6 ?e7 ?e8 ?e9 ?f1 ?f2 ?f3 ?f4 ?f5 ?f6 ?f7 ?f8 ?f9; (case e1 => k_is); (case e2 => decide +kernel); (case e3 => k_is); (case e4 => k_is); (case e5 => k_is); (case e6 => k_is); (case e7 => k_is); (case e8 => k_is); (case e9 => k_is); (case f1 => rfl); (case f2 => decide +kernel); (case f3 => k_is); (case f4 => decide +kernel); (case f5 => ks_is); (case f6 => k_is); (case f7 => k_is); (case f8 => k_is); (case f9 => k_is))), by refine mg_none_of KX G ?_; k_is⟩
      case e_InvalidRow => exact ⟨K01.ini_InvalidRow, by ((refine' errC_mk ?e1 ?e2 ?e3 ?e4 ?e5 ?e6 ?e7 ?e8 ?e9 ?f1 ?f2 ?f3 ?f4 ?f5 ?f6 ?f7 ?f8 ?f9; (case e1 => k_is); (case e2 => decide +kernel); (case e3 => k_is); (case e4 => k_is); (case e5 => k_is); (case e6 => k_is); (case e7 => k_is); (case e8 => k_is); (case e9 => k_is); (case f1 => rfl); (case f2 => decide +kernel); (case f3 => k_is); (case f4 => decide +kernel); (case f5 => ks_is); (case f6 => k_is); (case f7 => k_is); (case f8 => k_is); (case f9 => k_is))), by refine mg_none_of KX G ?_; k_is⟩
      case e_InvalidFormula => exact ⟨K01.ini_InvalidFormula, by ((refine' errC_mk ?e1 ?e2 ?e3 ?e4 ?e5 ?e6 ?e7 ?e8 ?e9 ?f1 ?f2 ?f3 ?f4 ?f5 ?f6 ?f7 ?f8 ?f9; (case e1 => k_is); (case e2 => decide +kernel); (case e3 => k_is); (case e4 => k_is); (case e5 => k_is); (case e6 => k_is); (case e7 => k_is); (case e8 => k_is); (case e9 => k_is); (case f1 => rfl); (case f2 => decide +kernel); (case f3 => k_is); (case f4 => decide +kernel); (case f5 => ks_is); (case f6 => k_is); (case f7 => k_is); (case f8 => k_is); (case f9 => k_is))), by refine mg_none_of KX G ?_; k_is⟩
      case e_InvalidPacked => exact ⟨K01.ini_InvalidPacked, by ((refine' errC_mk ?e1 ?e2 ?e3 ?e4 ?e5 ?e6 ?e7 ?e8 ?e9 ?f1 ?f2 ?f3 ?f4 ?f5 ?f6 ?f7 ?f8 ?f9; (case e1 => k_is); (case e2 => decide +kernel); (case e3 => k_is); (case e4 => k_is); (case e5 => k_is); (case e6 => k_is); (case e7 => k_is); (case e8 => k_is); (case e9 => k_is); (case f1 => rfl); (case f2 => decide +kernel); (case f3 => k_is); (case f4 => decide +kernel); (case f5 => ks_is); (case f6 => k_is); (case f7 => k_is); (case f8 => k_is); (case f9 => k_is))), by refine mg_none_of KX G ?_; k_is⟩
      case e_InvalidStand => exact ⟨K01.ini_InvalidStand, by ((refine' errC_mk ?e1 ?e2 ?e3 ?e4 ?e5 ?e6 ?e7 ?e8 ?e9 ?f1 ?f2 ?f3 ?f4 ?f5 ?f6 ?f7 ?f8 ?f9; (case e1 => k_is); (case e2 => decide +kernel); (case e3 => k_is); (case e4 => k_is); (case e5 => k_is); (case e6 => k_is); (case e7 => k_is); (case e8 => k_is); (case e9 => k_is); (case f1 => rfl); (case f2 => decide +kernel); (case f3 => k_is); (case f4 => decide +kernel); (case f5 => ks_is); (case f6 => k_is); (case f7 => k_is); (case f8 => k_is); (case f9 => k_is))), by refine mg_none_of KX G ?_; k_is⟩
      case e_InvalidCommand => exact ⟨K01.ini_InvalidCommand, by ((refine' errC_mk ?e1 ?e2 ?e3 ?e4 ?e5 ?e6 ?e7 ?e8 ?e9 ?f1 ?f2 ?f3 ?f4 ?f5 ?f6 ?f7 ?f8 ?f9; (case e1 => k_is); (case e2 => decide +kernel); (case e3 => k_is); (case e4 => k_is); (case e5 => k_is); (case e6 => k_is); (case e7 => k_is); (case e8 => k_is); (case e9 => k_is); (case f1 => rfl); (case f2 => decide +kernel); (case f3 => k_is); (case f4 => decide +kernel); (case f5 => ks_is); (case f6 => k_is); (case f7 => k_is); (case f8 => k_is); (case f9 => k_is))), by refine mg_none_of KX G ?_; k_is⟩
      case e_UnknownName => exact ⟨K01.ini_UnknownName, by ((refine' errC_mk ?e1 ?e2 ?e3 ?e4 ?e5 ?e6 ?e7 ?e8 ?e9 ?f1 ?f2 ?f3 ?f4 ?f5 ?f6 ?f7 ?f8 ?f9; (case e1 => k_is); (case e2 => decide +kernel); (case e3 => k_is); (case e4 => k_is); (case e5 => k_is); (case e6 => k_is); (case e7 => k_is); (case e8 => k_is); (case e9 => k_is); (case f1 => rfl); (case f2 => decide +kernel); (case f3 => k_is); (case f4 => decide +kernel); (case f5 => ks_is); (case f6 => k_is); (case f7 => k_is); (case f8 => k_is); (case f9 => k_is))), by refine mg_none_of KX G ?_; k_is⟩
      case e_TooMany => exact ⟨K01.ini_TooMany, by ((refine' errC_mk ?e1 ?e2 ?e3 ?e4 ?e5 ?e6 ?e7 ?e8 ?e9 ?f1 ?f2 ?f3 ?f4 ?f5 ?f6 ?f7 ?f8 ?f9; (case e1 => k_is); (case e2 => decide +kernel); (case e3 => k_is); (case e4 => k_is); (case e5 => k_is); (case e6 => k_is); (case e7 => k_is); (case e8 => k_is); (case e9 => k_is); (case f1 => rfl); (case f2 => decide +kernel); (case f3 => k_is); (case f4 => decide +kernel); (case f5 => ks_is); (case f6 => k_is); (case f7 => k_is); (case f8 => k_is); (case f9 => k_is))), by refine mg_none_of KX G ?_; k_is⟩
      case e_NotADesk => exact ⟨K01.ini_NotADesk, by ((refine' errC_mk ?e1 ?e2 ?e3 ?e4 ?e5 ?e6 ?e7 ?e8 ?e9 ?f1 ?f2 ?f3 ?f4 ?f5 ?f6 ?f7 ?f8 ?f9; (case e1 => k_is); (case e2 => decide +kernel); (case e3 => k_is); (case e4 => k_is); (case e5 => k_is); (case e6 => k_is); (case e7 => k_is); (case e8 => k_is); (case e9 => k_is); (case f1 => rfl); (case f2 => decide +kernel); (case f3 => k_is); (case f4 => decide +kernel); (case f5 => ks_is); (case f6 => k_is); (case f7 => k_is); (case f8 => k_is); (case f9 => k_is))), by refine mg_none_of KX G ?_; k_is⟩
      case e_InvalidPasses => exact ⟨K01.ini_InvalidPasses, by ((refine' errC_mk ?e1 ?e2 ?e3 ?e4 ?e5 ?e6 ?e7 ?e8 ?e9 ?f1 ?f2 ?f3 ?f4 ?f5 ?f6 ?f7 ?f8 ?f9; (case e1 => k_is); (case e2 => decide +kernel); (case e3 => k_is); (case e4 => k_is); (case e5 => k_is); (case e6 => k_is); (case e7 => k_is); (case e8 => k_is); (case e9 => k_is); (case f1 => rfl); (case f2 => decide +kernel); (case f3 => k_is); (case f4 => decide +kernel); (case f5 => ks_is); (case f6 => k_is); (case f7 => k_is); (case f8 => k_is); (case f9 => k_is))), by refine mg_none_of KX G ?_; k_is⟩
      case e_InvalidInputs => exact ⟨K01.ini_InvalidInputs, by ((refine' errC_mk ?e1 ?e2 ?e3 ?e4 ?e5 ?e6 ?e7 ?e8 ?e9 ?f1 ?f2 ?f3 ?f4 ?f5 ?f6 ?f7 ?f8 ?f9; (case e1 => k_is); (case e2 => decide +kernel); (case e3 => k_is); (case e4 => k_is); (case e5 => k_is); (case e6 => k_is); (case e7 => k_is); (case e8 => k_is); (case e9 => k_is); (case f1 => rfl); (case f2 => decide +kernel); (case f3 => k_is); (case f4 => decide +kernel); (case f5 => ks_is); (case f6 => k_is); (case f7 => k_is); (case f8 => k_is); (case f9 => k_is))), by refine mg_none_of KX G ?_; k_is⟩
      case e_InvalidScript => exact ⟨K01.ini_InvalidScript, by ((refine' errC_mk ?e1 ?e2 ?e3 ?e4 ?e5 ?e6 ?e7 ?e8 ?e9 ?f1 ?f2 ?f3 ?f4 ?f5 ?f6 ?f7 ?f8 ?f9; (case e1 => k_is); (case e2 => decide +kernel); (case e3 => k_is); (case e4 => k_is); (case e5 => k_is); (case e6 => k_is); (case e7 => k_is); (case e8 => k_is); (case e9 => k_is); (case f1 => rfl); (case f2 => decide +kernel); (case f3 => k_is); (case f4 => decide +kernel); (case f5 => ks_is); (case f6 => k_is); (case f7 => k_is); (case f8 => k_is); (case f9 => k_is))), by refine mg_none_of KX G ?_; k_is⟩
      case e_Wrong => exact ⟨K01.ini_Wrong, by ((refine' errC_mk ?e1 ?e2 ?e3 ?e4 ?e5 ?e6 ?e7 ?e8 ?e9 ?f1 ?f2 ?f3 ?f4 ?f5 ?f6 ?f7 ?f8 ?f9; (case e1 => k_is); (case e2 => decide +kernel); (case e3 => k_is); (case e4 => k_is); (case e5 => k_is); (case e6 => k_is); (case e7 => k_is); (case e8 => k_is); (case e9 => k_is); (case f1 => rfl); (case f2 => decide +kernel); (case f3 => k_is); (case f4 => decide +kernel); (case f5 => ks_is); (case f6 => k_is); (case f7 => k_is); (case f8 => k_is); (case f9 => k_is))), by refine mg_none_of KX G ?_; k_is⟩
      case x_NotLet => k_exc
      case k_NotLet => k_is
      case x_Ended => k_exc
      case k_Ended => k_is
      case x_NotKept => k_exc
      case k_NotKept => k_is
      case errB =>
        refine ⟨DL.AllE.all ?_, ?_, ?_, ?_, ?_⟩
        · iterate 23 refine ⟨by ((refine' excK_mk ?e1 ?e2 ?e3 ?e4 ?e5 ?e6 ?e7; (case e1 => k_is); (case e2 => rfl); (case e3 => k_is); (case e4 => k_is); (case e5 => k_is); (case e6 => k_is); (case e7 => k_is))), ?_⟩
          trivial
        · exact (show isClsIn _ 24 = true by k_is)
        · k_is
        · k_is
        · k_is
      case fld_given =>
        refine DL.AllF.all ?_
        iterate 23 refine ⟨by k_is, ?_⟩
        trivial
      case fld_index =>
        refine DL.AllF.all ?_
        iterate 23 refine ⟨by k_is, ?_⟩
        trivial
      case fld_inputs =>
        refine DL.AllF.all ?_
        iterate 23 refine ⟨by k_is, ?_⟩
        trivial
end
