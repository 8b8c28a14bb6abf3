import PyProof.Rows.All
import PySem.Challenge.RW_translatory_k04_tapes_and_their_numbers
import HandS.ForMost
import HandS.ForExc
import HandS.TupAny
import HandS.Wide
import HandS.IsInst
import HandS.Conv
import HandS.AnyAll
set_option Elab.async false
set_option linter.all false
set_option maxRecDepth 100000
/-! Data over the heap: frozen data D, what a slot holds (M), and how both lie in an abstract heap. -/
namespace DM
open PySem PySem.Spec PyProof.Rows
open L2

/-- frozen data -/
inductive D where
  | non | bl (b : Bool) | int (i : Int) | str (x : Str) | ty (n : String) | ptr (a : Addr)
  | tup (ds : List D) | lst (ds : List D)
  | dK (ks : List Key) (ds : List D) | dT (ks : List (List Key)) (ds : List D)
  | obj (C : Addr) (ns : List Str) (ds : List D)

/-- what a slot or a place of the reckoning holds: frozen data, nothing known, or an object of one's own -/
inductive M where
  | v (d : D) | gone
  | ml (ds : List D) | mk (ks : List Key) (ds : List D) | mt (ks : List (List Key)) (ds : List D)
  | mo (C : Addr) (ns : List Str) (ms : List M)

mutual
def fz : M → D
  | .v d => d
  | .gone => .non
  | .ml ds => .lst ds
  | .mk ks ds => .dK ks ds
  | .mt ks ds => .dT ks ds
  | .mo C ns ms => .obj C ns (fzs ms)
def fzs : List M → List D
  | [] => []
  | m :: ms => fz m :: fzs ms
end

/-- a tuple, a list of the written part -/
def KTup (K : PySem.W.Frag) (a : Addr) (xs : List V) : Prop := ∃ (o : Obj) (its : Array Value) (n : Nat), K.lookup a = some o ∧ o.cls = .type "tuple" ∧ o.data = .seq its n ∧ its.size ≤ sizeLine ∧ Vals xs its.toList
def KLst (K : PySem.W.Frag) (a : Addr) (xs : List V) : Prop := ∃ (o : Obj) (its : Array Value) (n : Nat), K.lookup a = some o ∧ o.cls = .type "list" ∧ o.dict = none ∧ o.data = .seq its n ∧ its.size ≤ sizeLine ∧ Vals xs its.toList
def TupO (K : PySem.W.Frag) (H : Hp) (O : List Addr) (a : Addr) (xs : List V) : Prop := (Rd H a (.tup xs) ∧ a ∉ O) ∨ KTup K a xs
def LstO (K : PySem.W.Frag) (H : Hp) (O : List Addr) (a : Addr) (xs : List V) : Prop := (Rd H a (.lst xs) ∧ a ∉ O) ∨ KLst K a xs
theorem TupO.sq {K : PySem.W.Frag} {H : Hp} {O : List Addr} {a : Addr} {xs : List V} (h : TupO K H O a xs) : SqT K H a xs := h.imp (·.1) id
theorem LstO.sq {K : PySem.W.Frag} {H : Hp} {O : List Addr} {a : Addr} {xs : List V} (h : LstO K H O a xs) : SqL K H a xs := h.imp (·.1) id

mutual
/-- v stands for d; none of its objects is in O -/
inductive RD (K : PySem.W.Frag) (H : Hp) (O : List Addr) : V → D → Prop
  | non : RD K H O .non .non
  | bl (b : Bool) : RD K H O (.bl b) (.bl b)
  | int (i : Int) : RD K H O (.int i) (.int i)
  | str (x : Str) : RD K H O (.str x) (.str x)
  | ty (n : String) : RD K H O (.ty n) (.ty n)
  | ptr (a : Addr) : RD K H O (.ref a) (.ptr a)
  | tup {a : Addr} {vs : List V} {ds : List D} : TupO K H O a vs → RDs K H O vs ds → RD K H O (.ref a) (.tup ds)
  | lst {a : Addr} {vs : List V} {ds : List D} : LstO K H O a vs → RDs K H O vs ds → RD K H O (.ref a) (.lst ds)
  | dK {a : Addr} {kvs : List (Key × V)} {ks : List Key} {ds : List D} : a ∉ O → H a = some (.dK kvs) → kvs.map Prod.fst = ks → RDs K H O (kvs.map Prod.snd) ds → RD K H O (.ref a) (.dK ks ds)
  | dT {a : Addr} {kvs : List (List Key × V)} {ks : List (List Key)} {ds : List D} : a ∉ O → H a = some (.dT kvs) → kvs.map Prod.fst = ks → RDs K H O (kvs.map Prod.snd) ds → RD K H O (.ref a) (.dT ks ds)
  | obj {a C dx : Addr} {fs : List (Str × V)} {ns : List Str} {ds : List D} : a ∉ O → H a = some (.ins C dx fs) → fs.map Prod.fst = ns → RDs K H O (fs.map Prod.snd) ds → RD K H O (.ref a) (.obj C ns ds)
inductive RDs (K : PySem.W.Frag) (H : Hp) (O : List Addr) : List V → List D → Prop
  | nil : RDs K H O [] []
  | cons {v : V} {d : D} {vs : List V} {ds : List D} : RD K H O v d → RDs K H O vs ds → RDs K H O (v :: vs) (d :: ds)
end

abbrev Pr := Option V × M
mutual
/-- a slot's content; fp: its own objects -/
inductive RM (K : PySem.W.Frag) (H : Hp) (O : List Addr) : Option V → M → List Addr → Prop
  | gone (x : Option V) : RM K H O x .gone []
  | v {x : V} {d : D} : RD K H O x d → RM K H O (some x) (.v d) []
  | ml {a : Addr} {vs : List V} {ds : List D} : H a = some (.lst vs) → RDs K H O vs ds → RM K H O (some (.ref a)) (.ml ds) [a]
  | mk {a : Addr} {kvs : List (Key × V)} {ks : List Key} {ds : List D} : H a = some (.dK kvs) → kvs.map Prod.fst = ks → RDs K H O (kvs.map Prod.snd) ds → RM K H O (some (.ref a)) (.mk ks ds) [a]
  | mt {a : Addr} {kvs : List (List Key × V)} {ks : List (List Key)} {ds : List D} : H a = some (.dT kvs) → kvs.map Prod.fst = ks → RDs K H O (kvs.map Prod.snd) ds → RM K H O (some (.ref a)) (.mt ks ds) [a]
  | mo {a C dx : Addr} {fs : List (Str × V)} {ns : List Str} {ms : List M} {fp : List Addr} : H a = some (.ins C dx fs) → fs.map Prod.fst = ns → fs.length = ms.length → RL K H O ((fs.map fun p => some p.2).zip ms) fp → RM K H O (some (.ref a)) (.mo C ns ms) (a :: fp)
inductive RL (K : PySem.W.Frag) (H : Hp) (O : List Addr) : List Pr → List Addr → Prop
  | nil : RL K H O [] []
  | cons {x : Option V} {m : M} {L : List Pr} {fp fps : List Addr} : RM K H O x m fp → RL K H O L fps → RL K H O ((x, m) :: L) (fp ++ fps)
end

/-- all places at once: their own objects are apart from one another, and from all that is frozen -/
def RS (K : PySem.W.Frag) (H : Hp) (L : List Pr) : Prop := ∃ O : List Addr, O.Nodup ∧ RL K H O L O

section
variable {K : PySem.W.Frag} {H H' : Hp} {O O' : List Addr}

/-- what holds between an earlier and a later state: frozen things stand; own things of later are own or new -/
structure Stp (H H' : Hp) (O O' : List Addr) : Prop where
  k : ∀ a o, H a = some o → a ∉ O → H' a = some o
  o : ∀ a, a ∈ O' → a ∈ O ∨ H a = none
theorem Stp.notin (S : Stp H H' O O') {a : Addr} {o : HO} (h : H a = some o) (n : a ∉ O) : a ∉ O' := fun z => by
  rcases S.o a z with q | q
  · exact n q
  · rw [h] at q; cases q
theorem Stp.rd (S : Stp H H' O O') {a : Addr} {u : HO} (h : Rd H a u) (n : a ∉ O) : Rd H' a u ∧ a ∉ O' := by
  rcases h with h | ⟨o, h⟩
  · exact ⟨.inl (S.k _ _ h n), S.notin h n⟩
  · exact ⟨.inr ⟨o, S.k _ _ h n⟩, S.notin h n⟩
mutual
theorem RD.step (S : Stp H H' O O') : ∀ {v : V} {d : D}, RD K H O v d → RD K H' O' v d
  | _, _, .non => .non
  | _, _, .bl b => .bl b
  | _, _, .int i => .int i
  | _, _, .str x => .str x
  | _, _, .ty n => .ty n
  | _, _, .ptr a => .ptr a
  | _, _, .tup h r => .tup (h.imp (fun q => S.rd q.1 q.2) id) (RDs.step S r)
  | _, _, .lst h r => .lst (h.imp (fun q => S.rd q.1 q.2) id) (RDs.step S r)
  | _, _, .dK n h e r => .dK (S.notin h n) (S.k _ _ h n) e (RDs.step S r)
  | _, _, .dT n h e r => .dT (S.notin h n) (S.k _ _ h n) e (RDs.step S r)
  | _, _, .obj n h e r => .obj (S.notin h n) (S.k _ _ h n) e (RDs.step S r)
theorem RDs.step (S : Stp H H' O O') : ∀ {vs : List V} {ds : List D}, RDs K H O vs ds → RDs K H' O' vs ds
  | _, _, .nil => .nil
  | _, _, .cons h r => .cons (RD.step S h) (RDs.step S r)
end
mutual
theorem RM.step (S : Stp H H' O O') : ∀ {x : Option V} {m : M} {fp : List Addr}, RM K H O x m fp → (∀ a ∈ fp, ∀ o, H a = some o → H' a = some o) → RM K H' O' x m fp
  | _, _, _, .gone x, _ => .gone x
  | _, _, _, .v h, _ => .v (h.step S)
  | _, _, _, .ml h r, k => .ml (k _ List.mem_cons_self _ h) (r.step S)
  | _, _, _, .mk h e r, k => .mk (k _ List.mem_cons_self _ h) e (r.step S)
  | _, _, _, .mt h e r, k => .mt (k _ List.mem_cons_self _ h) e (r.step S)
  | _, _, _, .mo h e l r, k => .mo (k _ List.mem_cons_self _ h) e l (RL.step S r fun a ha => k a (List.mem_cons_of_mem _ ha))
theorem RL.step (S : Stp H H' O O') : ∀ {L : List Pr} {fp : List Addr}, RL K H O L fp → (∀ a ∈ fp, ∀ o, H a = some o → H' a = some o) → RL K H' O' L fp
  | _, _, .nil, _ => .nil
  | _, _, .cons h r, k => .cons (RM.step S h fun a ha => k a (List.mem_append_left _ ha)) (RL.step S r fun a ha => k a (List.mem_append_right _ ha))
end
mutual
theorem RM.there : ∀ {x : Option V} {m : M} {fp : List Addr}, RM K H O x m fp → ∀ a ∈ fp, ∃ o, H a = some o
  | _, _, _, .gone x, a, z => nomatch z
  | _, _, _, .v h, a, z => nomatch z
  | _, _, _, .ml h r, a, z => by rw [List.mem_singleton] at z; subst z; exact ⟨_, h⟩
  | _, _, _, .mk h e r, a, z => by rw [List.mem_singleton] at z; subst z; exact ⟨_, h⟩
  | _, _, _, .mt h e r, a, z => by rw [List.mem_singleton] at z; subst z; exact ⟨_, h⟩
  | _, _, _, .mo h e l r, a, z => by
    rcases List.mem_cons.mp z with z | z
    · subst z; exact ⟨_, h⟩
    · exact RL.there r a z
theorem RL.there : ∀ {L : List Pr} {fp : List Addr}, RL K H O L fp → ∀ a ∈ fp, ∃ o, H a = some o
  | _, _, .nil, a, z => nomatch z
  | _, _, .cons h r, a, z => by
    rcases List.mem_append.mp z with z | z
    · exact RM.there h a z
    · exact RL.there r a z
end
theorem RL.append : ∀ {L1 L2 : List Pr} {f1 f2 : List Addr}, RL K H O L1 f1 → RL K H O L2 f2 → RL K H O (L1 ++ L2) (f1 ++ f2)
  | _, _, _, _, .nil, r => r
  | _, _, _, _, .cons h q, r => by
    rw [List.append_assoc]
    exact .cons h (RL.append q r)
theorem RL.split : ∀ {L1 L2 : List Pr} {fp : List Addr}, RL K H O (L1 ++ L2) fp → ∃ f1 f2, fp = f1 ++ f2 ∧ RL K H O L1 f1 ∧ RL K H O L2 f2
  | [], L2, fp, h => ⟨[], fp, rfl, .nil, h⟩
  | (x, m) :: L1, L2, _, .cons h r => by
    obtain ⟨f1, f2, rfl, r1, r2⟩ := RL.split (L1 := L1) (L2 := L2) r
    exact ⟨_, f2, (List.append_assoc _ _ _).symm, .cons h r1, r2⟩
theorem RL.perm : ∀ {L L' : List Pr}, L.Perm L' → ∀ {fp : List Addr}, RL K H O L fp → ∃ fp', fp.Perm fp' ∧ RL K H O L' fp' := by
  intro L L' p
  induction p with
  | nil => intro fp h; exact ⟨fp, .refl _, h⟩
  | cons x p ih =>
    intro fp h
    cases h with
    | cons h r =>
      obtain ⟨f', p', r'⟩ := ih r
      exact ⟨_, p'.append_left _, .cons h r'⟩
  | swap x y l =>
    intro fp h
    cases h with
    | cons h r =>
      cases r with
      | cons h2 r =>
        refine ⟨_, ?_, .cons h2 (.cons h r)⟩
        rw [← List.append_assoc, ← List.append_assoc]
        exact List.perm_append_comm.append_right _
  | trans p q ih1 ih2 =>
    intro fp h
    obtain ⟨f1, p1, r1⟩ := ih1 h
    obtain ⟨f2, p2, r2⟩ := ih2 r1
    exact ⟨f2, p1.trans p2, r2⟩
/-- fewer own things -/
theorem Stp.fewer (h : ∀ a, a ∈ O' → a ∈ O) : Stp H H O O' := ⟨fun _ _ e _ => e, fun a z => .inl (h a z)⟩
theorem RL.fewer {L : List Pr} {fp : List Addr} (r : RL K H O L fp) (h : ∀ a, a ∈ O' → a ∈ O) : RL K H O' L fp := r.step (Stp.fewer h) fun _ _ _ e => e

theorem RS.perm {L L' : List Pr} (p : L.Perm L') (h : RS K H L) : RS K H L' := by
  obtain ⟨O, n, r⟩ := h
  obtain ⟨O', q, r'⟩ := RL.perm p r
  exact ⟨O', q.nodup n, r'.fewer fun a z => q.symm.mem_iff.mp z⟩
theorem RS.drop {p : Pr} {L : List Pr} (h : RS K H (p :: L)) : RS K H L := by
  obtain ⟨O, n, r⟩ := h
  obtain ⟨x, m⟩ := p
  cases r with
  | cons h r => exact ⟨_, (List.nodup_append.mp n).2.1, r.fewer fun a z => List.mem_append_right _ z⟩
theorem RS.dropL : ∀ {L1 L : List Pr}, RS K H (L1 ++ L) → RS K H L
  | [], _, h => h
  | _ :: L1, _, h => RS.dropL (L1 := L1) h.drop
theorem RS.dropR {L1 L : List Pr} (h : RS K H (L1 ++ L)) : RS K H L1 := RS.dropL (RS.perm List.perm_append_comm h)
/-- forget one -/
theorem RS.forget {x : Option V} {m : M} {L : List Pr} (y : Option V) (h : RS K H ((x, m) :: L)) : RS K H ((y, .gone) :: L) := by
  obtain ⟨O, n, r⟩ := h.drop
  exact ⟨O, n, .cons (.gone y) r⟩
theorem RS.add0 {L : List Pr} (y : Option V) (h : RS K H L) : RS K H ((y, .gone) :: L) := by
  obtain ⟨O, n, r⟩ := h
  exact ⟨O, n, .cons (.gone y) r⟩
/-- frozen data may be had twice -/
theorem RS.dup {x : Option V} {d : D} {L : List Pr} (h : RS K H ((x, .v d) :: L)) : RS K H ((x, .v d) :: (x, .v d) :: L) := by
  obtain ⟨O, n, r⟩ := h
  cases r with
  | cons h r =>
    cases h with
    | v h => exact ⟨_, n, .cons (.v h) (.cons (.v h) r)⟩
/-- data without objects -/
theorem RS.data {v : V} {d : D} {L : List Pr} (h : RS K H L) (f : ∀ O, RD K H O v d) : RS K H ((some v, .v d) :: L) := by
  obtain ⟨O, n, r⟩ := h
  exact ⟨O, n, .cons (.v (f O)) r⟩
end
end DM

/-! What is done with all places at once: freezing, new objects, taking a slot's content, putting one. -/
namespace DM
open PySem PySem.Spec PyProof.Rows
open L2

mutual
/-- nothing in it is unknown: it may be frozen -/
def fzok : M → Bool
  | .v _ => true
  | .gone => false
  | .ml _ => true
  | .mk _ _ => true
  | .mt _ _ => true
  | .mo _ _ ms => fzoks ms
def fzoks : List M → Bool
  | [] => true
  | m :: ms => fzok m && fzoks ms
end

section
variable {K : PySem.W.Frag} {H H' : Hp} {O O' : List Addr}
theorem RS.opn {x : Option V} {m : M} {L : List Pr} (h : RS K H ((x, m) :: L)) : ∃ fp f2, (fp ++ f2).Nodup ∧ RM K H (fp ++ f2) x m fp ∧ RL K H (fp ++ f2) L f2 := by
  obtain ⟨O, n, r⟩ := h
  cases r with
  | cons h r => exact ⟨_, _, n, h, r⟩
theorem RS.cls {x : Option V} {m : M} {L : List Pr} {fp f2 : List Addr} (n : (fp ++ f2).Nodup) (h : RM K H (fp ++ f2) x m fp) (r : RL K H (fp ++ f2) L f2) : RS K H ((x, m) :: L) := ⟨_, n, .cons h r⟩

theorem RDs.length : ∀ {vs : List V} {ds : List D}, RDs K H O vs ds → vs.length = ds.length
  | _, _, .nil => rfl
  | _, _, .cons _ r => by rw [List.length_cons, List.length_cons, r.length]
theorem RDs.append : ∀ {vs ws : List V} {ds es : List D}, RDs K H O vs ds → RDs K H O ws es → RDs K H O (vs ++ ws) (ds ++ es)
  | _, _, _, _, .nil, r => r
  | _, _, _, _, .cons h q, r => .cons h (q.append r)
theorem RDs.get : ∀ {vs : List V} {ds : List D} {i : Nat} {d : D}, RDs K H O vs ds → ds[i]? = some d → ∃ v, vs[i]? = some v ∧ RD K H O v d
  | _, _, i, d, .nil, e => by simp at e
  | _, _, 0, d, .cons h _, e => by simp at e; subst e; exact ⟨_, rfl, h⟩
  | _, _, i + 1, d, .cons _ r, e => by
    obtain ⟨v, a, b⟩ := r.get (i := i) (d := d) (by simpa using e)
    exact ⟨v, by simpa using a, b⟩
theorem RDs.take : ∀ {vs : List V} {ds : List D} (n : Nat), RDs K H O vs ds → RDs K H O (vs.take n) (ds.take n)
  | _, _, 0, _ => by rw [List.take_zero, List.take_zero]; exact .nil
  | _, _, n + 1, .nil => by rw [List.take_nil, List.take_nil]; exact .nil
  | _, _, n + 1, .cons h r => by rw [List.take_succ_cons, List.take_succ_cons]; exact .cons h (r.take n)
theorem RDs.drop : ∀ {vs : List V} {ds : List D} (n : Nat), RDs K H O vs ds → RDs K H O (vs.drop n) (ds.drop n)
  | _, _, 0, r => r
  | _, _, n + 1, .nil => by rw [List.drop_nil, List.drop_nil]; exact .nil
  | _, _, n + 1, .cons h r => by rw [List.drop_succ_cons, List.drop_succ_cons]; exact r.drop n
theorem RDs.set : ∀ {vs : List V} {ds : List D} (i : Nat) {v : V} {d : D}, RDs K H O vs ds → RD K H O v d → RDs K H O (vs.set i v) (ds.set i d)
  | _, _, i, _, _, .nil, _ => .nil
  | _, _, 0, _, _, .cons _ r, h => .cons h r
  | _, _, i + 1, _, _, .cons q r, h => .cons q (r.set i h)
theorem RDs.reverse : ∀ {vs : List V} {ds : List D}, RDs K H O vs ds → RDs K H O vs.reverse ds.reverse
  | _, _, .nil => .nil
  | _, _, .cons h r => by rw [List.reverse_cons, List.reverse_cons]; exact r.reverse.append (.cons h .nil)
theorem RDs.dropLast {vs : List V} {ds : List D} (r : RDs K H O vs ds) : RDs K H O vs.dropLast ds.dropLast := by
  rw [List.dropLast_eq_take, List.dropLast_eq_take, r.length]; exact r.take _
theorem RDs.replicate {v : V} {d : D} (h : RD K H O v d) : ∀ n : Nat, RDs K H O (List.replicate n v) (List.replicate n d)
  | 0 => .nil
  | n + 1 => .cons h (RDs.replicate h n)
theorem RDs.eraseIdx : ∀ {vs : List V} {ds : List D} (i : Nat), RDs K H O vs ds → RDs K H O (vs.eraseIdx i) (ds.eraseIdx i)
  | _, _, i, .nil => .nil
  | _, _, 0, .cons _ r => r
  | _, _, i + 1, .cons q r => .cons q (r.eraseIdx i)

theorem zip_snd {α β : Type} : ∀ {A : List α} {B : List β}, A.length = B.length → (A.zip B).map Prod.snd = B
  | [], [], _ => rfl
  | [], _ :: _, l => nomatch l
  | _ :: _, [], l => nomatch l
  | _ :: A, _ :: B, l => by rw [List.zip_cons_cons, List.map_cons, zip_snd (Nat.succ.inj l)]
theorem zip_fst {α β : Type} : ∀ {A : List α} {B : List β}, A.length = B.length → (A.zip B).map Prod.fst = A
  | [], [], _ => rfl
  | [], _ :: _, l => nomatch l
  | _ :: _, [], l => nomatch l
  | _ :: A, _ :: B, l => by rw [List.zip_cons_cons, List.map_cons, zip_fst (Nat.succ.inj l)]
theorem map_some_inj {α : Type} : ∀ {A B : List α}, A.map some = B.map some → A = B
  | [], [], _ => rfl
  | [], _ :: _, l => nomatch l
  | _ :: _, [], l => nomatch l
  | a :: A, b :: B, l => by
    have h := List.cons.inj l
    rw [Option.some.inj h.1, map_some_inj h.2]
/-! ### freezing -/
mutual
theorem RM.freeze (q : ∀ a ∈ O', a ∈ O) : ∀ {x : Option V} {m : M} {fp : List Addr}, RM K H O x m fp → fzok m = true → (∀ a ∈ fp, a ∉ O') → ∃ v, x = some v ∧ RD K H O' v (fz m)
  | _, _, _, .gone x, e, _ => nomatch e
  | _, _, _, .v h, e, _ => ⟨_, rfl, h.step (Stp.fewer q)⟩
  | _, _, _, .ml h r, _, n => ⟨_, rfl, .lst (.inl ⟨.inl h, n _ List.mem_cons_self⟩) (r.step (Stp.fewer q))⟩
  | _, _, _, .mk h e r, _, n => ⟨_, rfl, .dK (n _ List.mem_cons_self) h e (r.step (Stp.fewer q))⟩
  | _, _, _, .mt h e r, _, n => ⟨_, rfl, .dT (n _ List.mem_cons_self) h e (r.step (Stp.fewer q))⟩
  | _, _, _, .mo (fs := fs) (ms := ms) h e l r, z, n => by
    obtain ⟨vs, e1, r1⟩ := RL.freeze q r (by rw [zip_snd (by rw [List.length_map]; exact l)]; exact z) fun a ha => n a (List.mem_cons_of_mem _ ha)
    rw [zip_snd (by rw [List.length_map]; exact l)] at r1
    rw [zip_fst (by rw [List.length_map]; exact l)] at e1
    have e2 : fs.map Prod.snd = vs := by
      apply map_some_inj
      rw [← e1, List.map_map]
      rfl
    exact ⟨_, rfl, .obj (n _ List.mem_cons_self) h e (by rw [e2]; exact r1)⟩
theorem RL.freeze (q : ∀ a ∈ O', a ∈ O) : ∀ {L : List Pr} {fp : List Addr}, RL K H O L fp → fzoks (L.map Prod.snd) = true → (∀ a ∈ fp, a ∉ O') → ∃ vs : List V, L.map Prod.fst = vs.map some ∧ RDs K H O' vs (fzs (L.map Prod.snd))
  | _, _, .nil, _, _ => ⟨[], rfl, .nil⟩
  | _, _, .cons h r, z, n => by
    have z' := Bool.and_eq_true_iff.mp z
    obtain ⟨w, ew, hw⟩ := RM.freeze q h z'.1 fun a ha => n a (List.mem_append_left _ ha)
    obtain ⟨vs, ev, hv⟩ := RL.freeze q r z'.2 fun a ha => n a (List.mem_append_right _ ha)
    refine ⟨w :: vs, ?_, .cons hw hv⟩
    rw [List.map_cons, List.map_cons, ev, ew]
end
theorem RS.freeze {x : Option V} {m : M} {L : List Pr} (h : RS K H ((x, m) :: L)) (z : fzok m = true) : RS K H ((x, .v (fz m)) :: L) := by
  obtain ⟨fp, f2, n, r, q⟩ := h.opn
  have d := (List.nodup_append.mp n)
  obtain ⟨v, rfl, hv⟩ := RM.freeze (O' := f2) (fun a ha => List.mem_append_right _ ha) r z fun a ha hb => d.2.2 a ha a hb rfl
  exact ⟨f2, d.2.1, .cons (fp := []) (.v hv) (q.fewer fun a ha => List.mem_append_right _ ha)⟩
/-- several, frozen, and the rest -/
theorem RS.frozen {vs : List V} {ms : List M} {L : List Pr} (l : vs.length = ms.length) (h : RS K H ((vs.map some).zip ms ++ L)) (z : fzoks ms = true) : ∃ O, O.Nodup ∧ RDs K H O vs (fzs ms) ∧ RL K H O L O := by
  obtain ⟨O, n, r⟩ := h
  obtain ⟨f1, f2, rfl, r1, r2⟩ := RL.split r
  have d := (List.nodup_append.mp n)
  have l' : (vs.map some).length = ms.length := by rw [List.length_map]; exact l
  obtain ⟨ws, e, q⟩ := RL.freeze (O' := f2) (fun a ha => List.mem_append_right _ ha) r1 (by rw [zip_snd l']; exact z) fun a ha hb => d.2.2 a ha a hb rfl
  rw [zip_fst l'] at e
  rw [zip_snd l', ← map_some_inj e] at q
  exact ⟨f2, d.2.1, q, r2.fewer fun a ha => List.mem_append_right _ ha⟩
theorem fzs_v (ds : List D) : fzs (ds.map M.v) = ds := by
  induction ds with
  | nil => rfl
  | cons d ds ih => show d :: fzs (ds.map M.v) = d :: ds; rw [ih]
theorem fzoks_v (ds : List D) : fzoks (ds.map M.v) = true := by
  induction ds with
  | nil => rfl
  | cons d ds ih => show (true && fzoks (ds.map M.v)) = true; rw [ih]; rfl

/-! ### new objects -/
theorem RL.notnew {L : List Pr} {fp : List Addr} (r : RL K H O L fp) {p : Addr} (hp : H p = none) : p ∉ fp := fun z => by
  obtain ⟨o, e⟩ := r.there p z
  rw [e] at hp; cases hp
theorem stp_new {p : Addr} {o : HO} (hp : H p = none) (h : ∀ a, a ∈ O' → a ∈ O ∨ a = p) : Stp H (upd H p o) O O' :=
  ⟨fun a u e _ => by rw [upd_ne (ne_of_none e hp)]; exact e, fun a z => (h a z).imp id fun e => by rw [e]; exact hp⟩
theorem RL.newO {L : List Pr} {fp : List Addr} (r : RL K H O L fp) {p : Addr} {o : HO} (hp : H p = none) (h : ∀ a, a ∈ O' → a ∈ O ∨ a = p) : RL K (upd H p o) O' L fp :=
  r.step (stp_new hp h) fun a _ u e => by rw [upd_ne (ne_of_none e hp)]; exact e
/-- something that is not told of is laid -/
theorem RS.ext {L : List Pr} (h : RS K H L) (k : ∀ a o, H a = some o → H' a = some o) : RS K H' L := by
  obtain ⟨O, n, r⟩ := h
  exact ⟨O, n, r.step ⟨fun a o e _ => k a o e, fun a z => .inl z⟩ fun a _ o e => k a o e⟩
theorem RS.newTup {vs : List V} {ds : List D} {L : List Pr} {p : Addr} (h : ∃ O, O.Nodup ∧ RDs K H O vs ds ∧ RL K H O L O) (hp : H p = none) : RS K (upd H p (.tup vs)) ((some (.ref p), .v (.tup ds)) :: L) := by
  obtain ⟨O, n, hd, r⟩ := h
  have np := r.notnew hp
  exact ⟨O, n, .cons (fp := []) (.v (.tup (.inl ⟨.inl upd_same, np⟩) (hd.step (stp_new hp fun a z => .inl z)))) (r.newO hp fun a z => .inl z)⟩
theorem RS.newLst {vs : List V} {ds : List D} {L : List Pr} {p : Addr} (h : ∃ O, O.Nodup ∧ RDs K H O vs ds ∧ RL K H O L O) (hp : H p = none) : RS K (upd H p (.lst vs)) ((some (.ref p), .ml ds) :: L) := by
  obtain ⟨O, n, hd, r⟩ := h
  have np := r.notnew hp
  refine ⟨p :: O, List.nodup_cons.mpr ⟨np, n⟩, .cons (fp := [p]) (.ml upd_same (hd.step (stp_new hp fun a z => ?_))) (r.newO hp fun a z => ?_)⟩
  · exact (List.mem_cons.mp z).symm
  · exact (List.mem_cons.mp z).symm
theorem RS.newK {L : List Pr} {p : Addr} (h : RS K H L) (hp : H p = none) : RS K (upd H p (.dK [])) ((some (.ref p), .mk [] []) :: L) := by
  obtain ⟨O, n, r⟩ := h
  have np := r.notnew hp
  exact ⟨p :: O, List.nodup_cons.mpr ⟨np, n⟩, .cons (fp := [p]) (.mk upd_same rfl .nil) (r.newO hp fun a z => (List.mem_cons.mp z).symm)⟩
theorem RS.newT {L : List Pr} {p : Addr} (h : RS K H L) (hp : H p = none) : RS K (upd H p (.dT [])) ((some (.ref p), .mt [] []) :: L) := by
  obtain ⟨O, n, r⟩ := h
  have np := r.notnew hp
  exact ⟨p :: O, List.nodup_cons.mpr ⟨np, n⟩, .cons (fp := [p]) (.mt upd_same rfl .nil) (r.newO hp fun a z => (List.mem_cons.mp z).symm)⟩

/-! ### an own object is written -/
theorem stp_put {a : Addr} {o : HO} (ha : a ∈ O) (h : ∀ b, b ∈ O' → b ∈ O) : Stp H (upd H a o) O O' :=
  ⟨fun b u e n => by rw [upd_ne fun z => n (by rw [z]; exact ha)]; exact e, fun b z => .inl (h b z)⟩
theorem RS.putLst {a : Addr} {ds ds' : List D} {L : List Pr} (h : RS K H ((some (.ref a), .ml ds) :: L)) :
    ∃ vs, H a = some (.lst vs) ∧ vs.length = ds.length ∧ (∀ O, RDs K H O vs ds → True) ∧ ∀ vs', (∀ O, RDs K H O vs ds → a ∈ O → RDs K H O vs' ds') → RS K (upd H a (.lst vs')) ((some (.ref a), .ml ds') :: L) := by
  obtain ⟨fp, f2, n, r, q⟩ := h.opn
  cases r with
  | ml e r =>
    refine ⟨_, e, r.length, fun _ _ => trivial, fun vs' hv => ?_⟩
    have d := List.nodup_append.mp n
    refine RS.cls (fp := [a]) n (.ml upd_same ((hv _ r (by simp)).step (stp_put (by simp) fun b z => z))) (q.step (stp_put (by simp) fun b z => z) fun b hb o ho => ?_)
    rw [upd_ne fun z => d.2.2 a (by simp) b hb z.symm]
    exact ho

/-! ### places -/
theorem perm_at {α : Type} : ∀ {L : List α} {i : Nat} {p : α}, L[i]? = some p → L.Perm (p :: L.eraseIdx i)
  | [], i, p, e => by simp at e
  | x :: L, 0, p, e => by simp at e; subst e; exact .refl _
  | x :: L, i + 1, p, e => by
    have e' : L[i]? = some p := by simpa using e
    exact ((perm_at e').cons x).trans (.swap p x _)
theorem perm_set {α : Type} : ∀ {L : List α} {i : Nat} (q : α), i < L.length → (L.set i q).Perm (q :: L.eraseIdx i)
  | [], i, q, e => nomatch e
  | x :: L, 0, q, e => .refl _
  | x :: L, i + 1, q, e => ((perm_set q (Nat.lt_of_succ_lt_succ e)).cons x).trans (.swap q x _)
theorem zip_set {α β : Type} : ∀ (A : List α) (B : List β) (i : Nat) (a : α) (b : β), (A.set i a).zip (B.set i b) = (A.zip B).set i (a, b)
  | [], B, i, a, b => by simp
  | x :: A, [], i, a, b => by simp
  | x :: A, y :: B, 0, a, b => rfl
  | x :: A, y :: B, i + 1, a, b => by simp [zip_set A B i a b]
theorem zip_get {α β : Type} : ∀ {A : List α} {B : List β} {i : Nat} {b : β}, A.length = B.length → B[i]? = some b → ∃ a, A[i]? = some a ∧ (A.zip B)[i]? = some (a, b)
  | [], [], i, b, _, e => by simp at e
  | [], _ :: _, i, b, l, _ => nomatch l
  | _ :: _, [], i, b, l, _ => nomatch l
  | x :: A, y :: B, 0, b, l, e => by simp at e; subst e; exact ⟨x, rfl, rfl⟩
  | x :: A, y :: B, i + 1, b, l, e => by
    obtain ⟨a, h1, h2⟩ := zip_get (A := A) (B := B) (i := i) (b := b) (Nat.succ.inj l) (by simpa using e)
    exact ⟨a, by simpa using h1, by simpa using h2⟩
theorem set_get {α : Type} {A : List α} {i : Nat} {a : α} (h : A[i]? = some a) : A.set i a = A := by
  apply List.ext_getElem?
  intro j
  by_cases e : i = j
  · subst e
    rw [List.getElem?_set_self (by have := (List.getElem?_eq_some_iff.mp h).1; exact this), h]
  · rw [List.getElem?_set_ne e]
theorem perm_mid {α : Type} (G P : List α) (p : α) : (G ++ p :: P).Perm (p :: (G ++ P)) := List.perm_middle
/-- a slot's content is taken out -/
theorem RS.take {G : List Pr} {σ : List (Option V)} {S : List M} {i : Nat} {m : M} (h : RS K H (G ++ σ.zip S)) (l : σ.length = S.length) (e : S[i]? = some m) :
    ∃ x, σ[i]? = some x ∧ RS K H ((x, m) :: (G ++ σ.zip (S.set i .gone))) := by
  obtain ⟨x, h1, h2⟩ := zip_get l e
  refine ⟨x, h1, ?_⟩
  have hi : i < (σ.zip S).length := (List.getElem?_eq_some_iff.mp h2).1
  have p1 : (G ++ σ.zip S).Perm ((x, m) :: (G ++ (σ.zip S).eraseIdx i)) := ((perm_at h2).append_left G).trans (perm_mid _ _ _)
  have r := RS.perm p1 h
  have r2 : RS K H ((x, .gone) :: (x, m) :: (G ++ (σ.zip S).eraseIdx i)) := RS.add0 x r
  have e2 : σ.zip (S.set i .gone) = (σ.zip S).set i (x, .gone) := by rw [← zip_set, set_get h1]
  rw [e2]
  refine RS.perm ?_ r2
  refine (List.Perm.swap _ _ _).trans (List.Perm.cons _ ?_)
  exact (((perm_set (x, M.gone) hi).append_left G).trans (perm_mid _ _ _)).symm
/-- a slot gets a content -/
theorem RS.put {G : List Pr} {σ : List (Option V)} {S : List M} {i : Nat} {x : Option V} {m : M} (h : RS K H ((x, m) :: (G ++ σ.zip S))) (l : σ.length = S.length) (hi : i < S.length) :
    RS K H (G ++ (σ.set i x).zip (S.set i m)) := by
  have hz : i < (σ.zip S).length := by rw [List.length_zip, l, Nat.min_self]; exact hi
  rw [zip_set]
  refine RS.perm (((perm_set (x, m) hz).append_left G).trans (perm_mid _ _ _)).symm ?_
  have p : ((x, m) :: (G ++ σ.zip S)).Perm ((σ.zip S)[i] :: (x, m) :: (G ++ (σ.zip S).eraseIdx i)) := by
    have q := perm_at (L := σ.zip S) (i := i) (List.getElem?_eq_getElem hz)
    exact (((q.append_left G).trans (perm_mid _ _ _)).cons _).trans (.swap _ _ _)
  exact (RS.perm p h).drop
/-- .. its own content, back -/
theorem RS.back {G : List Pr} {σ : List (Option V)} {S : List M} {i : Nat} {x : Option V} {m : M} (h : RS K H ((x, m) :: (G ++ σ.zip S))) (l : σ.length = S.length) (e : σ[i]? = some x) :
    RS K H (G ++ σ.zip (S.set i m)) := by
  have hi : i < S.length := by rw [← l]; exact (List.getElem?_eq_some_iff.mp e).1
  have r := RS.put h l hi
  rw [set_get e] at r
  exact r
theorem set_set' {α : Type} (A : List α) (i : Nat) (a b : α) : (A.set i a).set i b = A.set i b := List.set_set ..
/-- a slot's frozen content is had twice -/
theorem RS.copy {G : List Pr} {σ : List (Option V)} {S : List M} {i : Nat} {d : D} (h : RS K H (G ++ σ.zip S)) (l : σ.length = S.length) (e : S[i]? = some (.v d)) :
    ∃ v, σ[i]? = some (some v) ∧ RS K H ((some v, .v d) :: (G ++ σ.zip S)) := by
  obtain ⟨x, h1, r⟩ := RS.take h l e
  have r2 := RS.dup r
  obtain ⟨v, rfl⟩ : ∃ v, x = some v := by
    obtain ⟨fp, f2, n, q, _⟩ := r.opn
    cases q with
    | v q => exact ⟨_, rfl⟩
  refine ⟨v, h1, ?_⟩
  have r3 : RS K H ((some v, .v d) :: (((some v, .v d) :: G) ++ σ.zip (S.set i .gone))) := r2
  have r4 := RS.back r3 (by rw [List.length_set]; exact l) h1
  rw [set_set', set_get e] at r4
  exact r4
/-- the order of what stands in front -/
theorem RS.rot {G1 G2 L : List Pr} (h : RS K H (G1 ++ (G2 ++ L))) : RS K H (G2 ++ (G1 ++ L)) := by
  rw [← List.append_assoc] at h ⊢
  exact RS.perm (List.perm_append_comm.append_right L) h
theorem RS.swap {p q : Pr} {L : List Pr} (h : RS K H (p :: q :: L)) : RS K H (q :: p :: L) := RS.perm (.swap _ _ _) h
end
end DM

/-! The judgements over data: what an expression, a test, arguments, a statement do, read without a heap. -/
namespace DM
open PySem PySem.Spec PyProof.Rows
open L2

/-- one of two ways; opened by iteP_of, iteP_t, iteP_f alone -/
structure iteP (b : Bool) (A B : Prop) : Prop where
  go : if b = true then A else B
theorem iteP_t {A B : Prop} : iteP true A B = A := propext ⟨fun h => by
  have q := h.go
  rwa [if_pos rfl] at q, fun a => ⟨by rwa [if_pos rfl]⟩⟩
theorem iteP_f {A B : Prop} : iteP false A B = B := propext ⟨fun h => by
  have q := h.go
  rwa [if_neg (by decide)] at q, fun a => ⟨by rwa [if_neg (by decide)]⟩⟩
theorem iteP_T {A B : Prop} (a : A) : iteP true A B := by rw [iteP_t]; exact a
theorem iteP_F {A B : Prop} (b : B) : iteP false A B := by rw [iteP_f]; exact b
theorem iteP_of {b : Bool} {A B : Prop} (h1 : b = true → A) (h2 : b = false → B) : iteP b A B := by
  cases b with
  | true => rw [iteP_t]; exact h1 rfl
  | false => rw [iteP_f]; exact h2 rfl
theorem iteP_pos {b : Bool} {A B : Prop} (h : b = true) (a : A) : iteP b A B := by subst h; rw [iteP_t]; exact a
theorem iteP_neg {b : Bool} {A B : Prop} (h : b = false) (a : B) : iteP b A B := by subst h; rw [iteP_f]; exact a
theorem iteP_d {p : Prop} [Decidable p] {A B : Prop} (h1 : p → A) (h2 : ¬ p → B) : iteP (decide p) A B := iteP_of (fun e => h1 (of_decide_eq_true e)) fun e => h2 (of_decide_eq_false e)
/-- K, where b is seen to be true -/
def chk (b : Bool) (K : Prop) : Prop := match b with
  | true => K
  | false => False
theorem chk.ok {b : Bool} {K : Prop} (h : chk b K) : b = true ∧ K := by
  cases b with
  | true => exact ⟨rfl, h⟩
  | false => exact h.elim
abbrev EX := Value × Option (List (Str × D))
abbrev XM := EX → List M → Prop
abbrev RMx := M → List M → Prop
abbrev FE := List M → RMx → XM → Prop
abbrev FT := List M → (Bool → List M → Prop) → XM → Prop
abbrev FA := List M → (List M → List M → Prop) → XM → Prop
structure EM where
  nx : List M → Prop
  rt : RMx
  bk : List M → Prop := fun _ => False
  ct : List M → Prop := fun _ => False
  ex : XM := fun _ _ => False
abbrev FS := EM → List M → Prop

/-- an exception's own dict d holds the fields fs -/
def XOk (K : PySem.W.Frag) (H : Hp) (d : Option Addr) (fs : Option (List (Str × D))) (L : List Pr) : Prop :=
  match fs, d with
  | none, none => RS K H L
  | some fs, some dd => ∃ fvs : List (Str × V), H dd = some (.xd fvs) ∧ fvs.map Prod.fst = fs.map Prod.fst ∧ RS K H (((fvs.map Prod.snd).map some).zip ((fs.map Prod.snd).map M.v) ++ L)
  | _, _ => False
theorem XOk.imp {K : PySem.W.Frag} {H : Hp} {d : Option Addr} {fs : Option (List (Str × D))} {L L' : List Pr} (h : XOk K H d fs L) (k : ∀ L1, RS K H (L1 ++ L) → RS K H (L1 ++ L')) : XOk K H d fs L' := by
  cases fs with
  | none =>
    cases d with
    | none => exact k [] h
    | some d => exact h
  | some fs =>
    cases d with
    | none => exact h
    | some d =>
      obtain ⟨fvs, a, b, c⟩ := h
      exact ⟨fvs, a, b, k _ c⟩
theorem XOk.drop {K : PySem.W.Frag} {H : Hp} {d : Option Addr} {fs : Option (List (Str × D))} {p : Pr} {L : List Pr} (h : XOk K H d fs (p :: L)) : XOk K H d fs L :=
  h.imp fun L1 r => (RS.perm (perm_mid _ _ _) r).drop

def tD (K : PySem.W.Frag) (W : WX) (F : FE) : TE := fun σ H Q => ∃ (G : List Pr) (S : List M) (R : RMx) (XR : XM), σ.length = S.length ∧ RS K H (G ++ σ.zip S) ∧ F S R XR ∧
  (∀ m S' v H', σ.length = S'.length → R m S' → RS K H' ((some v, m) :: (G ++ σ.zip S')) → Q v H') ∧
  (∀ c fs S' d H', σ.length = S'.length → XR (c, fs) S' → XOk K H' d fs (G ++ σ.zip S') → W c d σ H')
def tDT (K : PySem.W.Frag) (W : WX) (F : FT) : TT := fun σ H Q => ∃ (G : List Pr) (S : List M) (R : Bool → List M → Prop) (XR : XM), σ.length = S.length ∧ RS K H (G ++ σ.zip S) ∧ F S R XR ∧
  (∀ b S' H', σ.length = S'.length → R b S' → RS K H' (G ++ σ.zip S') → Q b H') ∧
  (∀ c fs S' d H', σ.length = S'.length → XR (c, fs) S' → XOk K H' d fs (G ++ σ.zip S') → W c d σ H')
def tDA (K : PySem.W.Frag) (W : WX) (F : FA) : TA := fun σ H Q => ∃ (G : List Pr) (S : List M) (R : List M → List M → Prop) (XR : XM), σ.length = S.length ∧ RS K H (G ++ σ.zip S) ∧ F S R XR ∧
  (∀ ms S' vs H', σ.length = S'.length → vs.length = ms.length → R ms S' → RS K H' ((vs.map some).zip ms ++ (G ++ σ.zip S')) → Q vs H') ∧
  (∀ c fs S' d H', σ.length = S'.length → XR (c, fs) S' → XOk K H' d fs (G ++ σ.zip S') → W c d σ H')
/-- the params that the body leaves bound as they are -/
structure Ag (mask : List Bool) (σ σ' : L2.St) : Prop where
  len : σ'.length = σ.length
  same : ∀ i : Nat, mask[i]? = some true → σ'[i]? = σ[i]?
theorem Ag.refl {mask : List Bool} (σ : L2.St) : Ag mask σ σ := ⟨rfl, fun _ _ => rfl⟩
theorem Ag.trans {mask : List Bool} {σ σ1 σ2 : L2.St} (a : Ag mask σ σ1) (b : Ag mask σ1 σ2) : Ag mask σ σ2 := ⟨b.len.trans a.len, fun i h => (b.same i h).trans (a.same i h)⟩
theorem Ag.set {mask : List Bool} {σ : L2.St} {i : Nat} (x : Option V) (h : mask[i]? ≠ some true) : Ag mask σ (σ.set i x) := ⟨List.length_set .., fun j hj => by
  rw [List.getElem?_set_ne]
  intro e; subst e; exact h hj⟩
def tDS (K : PySem.W.Frag) (W : WX) (mask : List Bool) (F : FS) : TS := fun D σ H => ∃ (G : List Pr) (S : List M) (E : EM), σ.length = S.length ∧ RS K H (G ++ σ.zip S) ∧ F E S ∧
  (∀ S' σ' H', Ag mask σ σ' → σ'.length = S'.length → E.nx S' → RS K H' (G ++ σ'.zip S') → D.nx σ' H') ∧
  (∀ m S' v σ' H', Ag mask σ σ' → σ'.length = S'.length → E.rt m S' → RS K H' ((some v, m) :: (G ++ σ'.zip S')) → D.rt v H') ∧
  (∀ S' σ' H', Ag mask σ σ' → σ'.length = S'.length → E.bk S' → RS K H' (G ++ σ'.zip S') → D.bk σ' H') ∧
  (∀ S' σ' H', Ag mask σ σ' → σ'.length = S'.length → E.ct S' → RS K H' (G ++ σ'.zip S') → D.ct σ' H') ∧
  (∀ c fs S' d σ' H', Ag mask σ σ' → σ'.length = S'.length → E.ex (c, fs) S' → XOk K H' d fs (G ++ σ'.zip S') → W c d σ' H')

structure DE (X : Cx) (W : WX) (e : Expr) (F : FE) : Prop where
  pe : PE X e (tD X.K W F)
structure DT (X : Cx) (W : WX) (e : Expr) (F : FT) : Prop where
  pt : PT X e (tDT X.K W F)
structure DW (X : Cx) (W : WX) (e : Expr) (F : FT) : Prop where
  pw : PW X e (tDT X.K W F)
structure DA (X : Cx) (W : WX) (es : List Expr) (F : FA) : Prop where
  pa : PA X es (tDA X.K W F)
structure DS (X : Cx) (W : WX) (mask : List Bool) (st : Stmt) (F : FS) : Prop where
  ps : PS X st (tDS X.K W mask F)
structure DSs (X : Cx) (W : WX) (mask : List Bool) (st : List Stmt) (F : FS) : Prop where
  ps : PSs X st (tDS X.K W mask F)

section
variable {X : Cx} {W : WX}
theorem pe_le {e : Expr} {t t' : TE} (h : PE X e t) (k : ∀ σ H Q, t' σ H Q → t σ H Q) : PE X e t' := ⟨fun pins s σ H Q I q => h.run pins s σ H Q I (k σ H Q q)⟩
theorem pt_le {e : Expr} {t t' : TT} (h : PT X e t) (k : ∀ σ H Q, t' σ H Q → t σ H Q) : PT X e t' := ⟨fun pins s σ H Q I q => h.run pins s σ H Q I (k σ H Q q)⟩
theorem pw_le {e : Expr} {t t' : TT} (h : PW X e t) (k : ∀ σ H Q, t' σ H Q → t σ H Q) : PW X e t' := ⟨fun w pins s σ H Q I q => h.run w pins s σ H Q I (k σ H Q q)⟩
theorem pa_le {e : List Expr} {t t' : TA} (h : PA X e t) (k : ∀ σ H Q, t' σ H Q → t σ H Q) : PA X e t' := ⟨fun p pins s σ H Q I q => h.run p pins s σ H Q I (k σ H Q q)⟩
theorem ps_le {e : Stmt} {t t' : TS} (h : PS X e t) (k : ∀ D σ H, t' D σ H → t D σ H) : PS X e t' := ⟨fun pins s σ H D I q => h.run pins s σ H D I (k D σ H q)⟩
theorem pss_le {e : List Stmt} {t t' : TS} (h : PSs X e t) (k : ∀ D σ H, t' D σ H → t D σ H) : PSs X e t' := ⟨fun pins s σ H D I q => h.run pins s σ H D I (k D σ H q)⟩

/-! ### what an own object is worth as data -/
def asD (m : M) (k : D → Prop) : Prop := match m with
  | .v d => k d
  | .gone => False
  | .ml ds => k (.lst ds)
  | .mk ks ds => k (.dK ks ds)
  | .mt ks ds => k (.dT ks ds)
  | .mo C ns ms => chk (fzoks ms) (k (.obj C ns (fzs ms)))
theorem asD.ok {m : M} {k : D → Prop} (h : asD m k) : fzok m = true ∧ k (fz m) := by
  cases m with
  | v d => exact ⟨rfl, h⟩
  | gone => exact h.elim
  | ml ds => exact ⟨rfl, h⟩
  | mk ks ds => exact ⟨rfl, h⟩
  | mt ks ds => exact ⟨rfl, h⟩
  | mo C ns ms => exact chk.ok h
theorem RS.asD {K : PySem.W.Frag} {H : Hp} {x : Option V} {m : M} {k : D → Prop} {L : List Pr} (h : RS K H ((x, m) :: L)) (z : asD m k) : ∃ d, k d ∧ RS K H ((x, .v d) :: L) := ⟨_, z.ok.2, h.freeze z.ok.1⟩

/-! ### names, constants -/
/-- .. states at once: each step leaves a list written out -/
def setK : List M → Nat → M → (List M → Prop) → Prop
  | [], _, _, k => k []
  | _ :: r, 0, m, k => k (m :: r)
  | a :: r, i + 1, m, k => setK r i m fun r' => k (a :: r')
theorem setK_eq : ∀ (S : List M) (i : Nat) (m : M) (k : List M → Prop), setK S i m k = k (S.set i m)
  | [], _, _, _ => rfl
  | _ :: _, 0, _, _ => rfl
  | a :: r, i + 1, m, k => setK_eq r i m _
def getK : List M → Nat → (M → Prop) → Prop → Prop
  | [], _, _, z => z
  | m :: _, 0, k, _ => k m
  | _ :: r, i + 1, k, z => getK r i k z
theorem getK_some : ∀ {S : List M} {i : Nat} {m : M} {k : M → Prop} {z : Prop}, S[i]? = some m → getK S i k z = k m
  | [], _, _, _, _, h => nomatch h
  | _ :: _, 0, _, _, _, h => by cases h; rfl
  | _ :: r, i + 1, _, _, _, h => getK_some (S := r) (i := i) h
theorem getK_none : ∀ {S : List M} {i : Nat} {k : M → Prop} {z : Prop}, S[i]? = none → getK S i k z = z
  | [], _, _, _, _ => rfl
  | _ :: _, 0, _, _, h => nomatch h
  | _ :: r, i + 1, _, _, h => getK_none (S := r) (i := i) h
def fV (i : Nat) : FE := fun S R _ => getK S i (fun m => match m with
  | .v d => R (.v d) S
  | m => chk (fzok m) (setK S i (.v (fz m)) fun S' => R (.v (fz m)) S')) False
/-- .. moved out -/
def fMv (i : Nat) : FE := fun S R _ => getK S i (fun m => match m with
  | .v d => R (.v d) S
  | .gone => False
  | m => setK S i .gone fun S' => R m S') False
def fC (d : D) : FE := fun S R _ => R (.v d) S
theorem RM.some_of {K : PySem.W.Frag} {H : Hp} {O : List Addr} {x : Option V} {m : M} {fp : List Addr} (h : RM K H O x m fp) (n : m ≠ .gone) : ∃ v, x = some v := by
  cases h with
  | gone x => exact absurd rfl n
  | v h => exact ⟨_, rfl⟩
  | ml h r => exact ⟨_, rfl⟩
  | mk h e r => exact ⟨_, rfl⟩
  | mt h e r => exact ⟨_, rfl⟩
  | mo h e l r => exact ⟨_, rfl⟩
theorem RS.some_of {K : PySem.W.Frag} {H : Hp} {x : Option V} {m : M} {L : List Pr} (h : RS K H ((x, m) :: L)) (n : m ≠ .gone) : ∃ v, x = some v := by
  obtain ⟨fp, f2, _, r, _⟩ := h.opn
  exact r.some_of n
/-- the slot's content is frozen in its place, and had -/
theorem RS.fzAt {K : PySem.W.Frag} {H : Hp} {G : List Pr} {σ : L2.St} {S : List M} {i : Nat} {m : M} (rs : RS K H (G ++ σ.zip S)) (l : σ.length = S.length) (e : S[i]? = some m) (z : fzok m = true) :
    ∃ v, σ[i]? = some (some v) ∧ RS K H ((some v, .v (fz m)) :: (G ++ σ.zip (S.set i (.v (fz m))))) := by
  obtain ⟨x, e1, r1⟩ := rs.take l e
  have r2 := (r1.freeze z).dup
  obtain ⟨v, rfl⟩ := r2.some_of (fun h => nomatch h)
  have r3 : RS K H ((some v, .v (fz m)) :: (((some v, .v (fz m)) :: G) ++ σ.zip (S.set i .gone))) := r2
  have r4 := RS.back r3 (by rw [List.length_set]; exact l) e1
  rw [set_set'] at r4
  exact ⟨v, e1, r4⟩
theorem de_v (i : Nat) {x : Str} {pos : Pos} (hN : X.N[i]? = some x := by rfl) (hv : Vis X.env.scope x := by first | exact Or.inl rfl | exact Or.inr (Or.inl rfl) | exact Or.inr (Or.inr rfl)) (hd : (x == ("__debug__" : Str)) = false := by decide)
    (hcd : (x == ("__classdict__" : Str)) = false := by decide) : DE X W (.Name x pos) (fV i) := ⟨pe_le (pe_var hN hv hd hcd) fun σ H Q h => by
  obtain ⟨G, S, R, XR, l, rs, hF, hQ, hX⟩ := h
  cases e : S[i]? with
  | none => simp only [fV, getK_none e] at hF
  | some m =>
    have go : chk (fzok m) (R (.v (fz m)) (S.set i (.v (fz m)))) → tVar i σ H Q := fun h => by
      have h := h.ok
      obtain ⟨v, e1, r⟩ := rs.fzAt l e h.1
      exact ⟨v, e1, hQ _ _ v H (by rw [List.length_set]; exact l) h.2 r⟩
    cases m with
    | v d =>
      simp only [fV, getK_some e, setK_eq] at hF
      obtain ⟨v, e1, r⟩ := rs.copy l e
      exact ⟨v, e1, hQ _ _ v H l hF r⟩
    | gone => simp only [fV, getK_some e, setK_eq] at hF; exact go hF
    | ml ds => simp only [fV, getK_some e, setK_eq] at hF; exact go hF
    | mk ks ds => simp only [fV, getK_some e, setK_eq] at hF; exact go hF
    | mt ks ds => simp only [fV, getK_some e, setK_eq] at hF; exact go hF
    | mo C ns ms => simp only [fV, getK_some e, setK_eq] at hF; exact go hF⟩
theorem de_mv (i : Nat) {x : Str} {pos : Pos} (hN : X.N[i]? = some x := by rfl) (hv : Vis X.env.scope x := by first | exact Or.inl rfl | exact Or.inr (Or.inl rfl) | exact Or.inr (Or.inr rfl)) (hd : (x == ("__debug__" : Str)) = false := by decide)
    (hcd : (x == ("__classdict__" : Str)) = false := by decide) : DE X W (.Name x pos) (fMv i) := ⟨pe_le (pe_var hN hv hd hcd) fun σ H Q h => by
  obtain ⟨G, S, R, XR, l, rs, hF, hQ, hX⟩ := h
  cases e : S[i]? with
  | none => simp only [fMv, getK_none e] at hF
  | some m =>
    have go : m ≠ .gone → R m (S.set i .gone) → tVar i σ H Q := fun n h => by
      obtain ⟨x, e1, r⟩ := rs.take l e
      obtain ⟨v, rfl⟩ := r.some_of n
      exact ⟨v, e1, hQ _ _ v H (by rw [List.length_set]; exact l) h r⟩
    cases m with
    | v d =>
      simp only [fMv, getK_some e, setK_eq] at hF
      obtain ⟨v, e1, r⟩ := rs.copy l e
      exact ⟨v, e1, hQ _ _ v H l hF r⟩
    | gone => simp only [fMv, getK_some e, setK_eq] at hF
    | ml ds => simp only [fMv, getK_some e, setK_eq] at hF; exact go (fun h => nomatch h) hF
    | mk ks ds => simp only [fMv, getK_some e, setK_eq] at hF; exact go (fun h => nomatch h) hF
    | mt ks ds => simp only [fMv, getK_some e, setK_eq] at hF; exact go (fun h => nomatch h) hF
    | mo C ns ms => simp only [fMv, getK_some e, setK_eq] at hF; exact go (fun h => nomatch h) hF⟩
theorem tD_const {v : V} {d : D} (f : ∀ (K : PySem.W.Frag) (H : Hp) O, RD K H O v d) {σ : L2.St} {H : Hp} {Q : VK} (h : tD X.K W (fC d) σ H Q) : tC v σ H Q := by
  obtain ⟨G, S, R, XR, l, rs, hF, hQ, hX⟩ := h
  exact hQ _ _ v H l hF (rs.data fun O => f _ _ O)
theorem de_int {i : Int} {j : Nat} {pos : Pos} : DE X W (.Constant (.int i) j pos) (fC (.int i)) := ⟨pe_le pe_int fun σ H Q h => tD_const (fun _ _ _ => .int i) h⟩
theorem de_bl {b : Bool} {j : Nat} {pos : Pos} : DE X W (.Constant (.bool b) j pos) (fC (.bl b)) := ⟨pe_le pe_bl fun σ H Q h => tD_const (fun _ _ _ => .bl b) h⟩
theorem de_non {j : Nat} {pos : Pos} : DE X W (.Constant .none j pos) (fC .non) := ⟨pe_le pe_non fun σ H Q h => tD_const (fun _ _ _ => .non) h⟩
theorem de_str {x : Str} {j : Nat} {pos : Pos} : DE X W (.Constant (.str x) j pos) (fC (.str x)) := ⟨pe_le pe_str fun σ H Q h => tD_const (fun _ _ _ => .str x) h⟩
theorem de_glob {x : Str} {v : V} {d : D} {u : Value} {pos : Pos} (hg : Gl X x) (hm : X.mg x = some u) (r : RelV v u) (f : ∀ (K : PySem.W.Frag) (H : Hp) O, RD K H O v d) (hd : (x == ("__debug__" : Str)) = false := by decide) :
    DE X W (.Name x pos) (fC d) := ⟨pe_le (pe_glob hg hm r hd) fun σ H Q h => tD_const f h⟩
theorem de_bltn {x : Str} {n : String} {pos : Pos} (hg : Gl X x) (hm : X.mg x = none) (hv : bootBuiltins x = some (.type n)) (hn : x ≠ "__name__" := by decide) (hd : (x == ("__debug__" : Str)) = false := by decide) :
    DE X W (.Name x pos) (fC (.ty n)) := ⟨pe_le (pe_bltn (v := .ty n) hg hm hv rfl hn hd) fun σ H Q h => tD_const (fun _ _ _ => .ty n) h⟩

/-! ### operands: a value, or a name whose content is lent -/
inductive Ar where
  | m (m : M) | n (i : Nat)
def arM : Ar → M
  | .m m => m
  | .n _ => .gone
def ArOk (σ : L2.St) (a : Ar) (v : V) : Prop := match a with
  | .m _ => True
  | .n i => σ[i]? = some (some v)
def ArsOk (σ : L2.St) : List Ar → List V → Prop
  | [], [] => True
  | a :: as, v :: vs => ArOk σ a v ∧ ArsOk σ as vs
  | _, _ => False
abbrev FO := List M → (Ar → List M → Prop) → XM → Prop
abbrev FOs := List M → (List Ar → List M → Prop) → XM → Prop
def tDO (K : PySem.W.Frag) (W : WX) (F : FO) : TE := fun σ H Q => ∃ (G : List Pr) (S : List M) (R : Ar → List M → Prop) (XR : XM), σ.length = S.length ∧ RS K H (G ++ σ.zip S) ∧ F S R XR ∧
  (∀ a S' v H', σ.length = S'.length → R a S' → ArOk σ a v → RS K H' ((some v, arM a) :: (G ++ σ.zip S')) → Q v H') ∧
  (∀ c fs S' d H', σ.length = S'.length → XR (c, fs) S' → XOk K H' d fs (G ++ σ.zip S') → W c d σ H')
def tDOs (K : PySem.W.Frag) (W : WX) (F : FOs) : TA := fun σ H Q => ∃ (G : List Pr) (S : List M) (R : List Ar → List M → Prop) (XR : XM), σ.length = S.length ∧ RS K H (G ++ σ.zip S) ∧ F S R XR ∧
  (∀ as S' vs H', σ.length = S'.length → R as S' → ArsOk σ as vs → RS K H' ((vs.map some).zip (as.map arM) ++ (G ++ σ.zip S')) → Q vs H') ∧
  (∀ c fs S' d H', σ.length = S'.length → XR (c, fs) S' → XOk K H' d fs (G ++ σ.zip S') → W c d σ H')
structure DO (X : Cx) (W : WX) (e : Expr) (F : FO) : Prop where
  pe : PE X e (tDO X.K W F)
structure DOs (X : Cx) (W : WX) (es : List Expr) (F : FOs) : Prop where
  pa : PA X es (tDOs X.K W F)
def oM (F : FE) : FO := fun S R XR => F S (fun m S' => R (.m m) S') XR
def hasAt (i : Nat) (S : List M) : Prop := match S[i]? with
  | some .gone => False
  | some _ => True
  | none => False
def oN (i : Nat) : FO := fun S R _ => match S[i]? with
  | some .gone => False
  | some _ => R (.n i) S
  | none => False
theorem do_m {e : Expr} {F : FE} (h : DE X W e F) : DO X W e (oM F) := ⟨pe_le h.pe fun σ H Q h => by
  obtain ⟨G, S, R, XR, l, rs, hF, hQ, hX⟩ := h
  exact ⟨G, S, _, XR, l, rs, hF, fun m S' v H' l' r rs' => hQ (.m m) S' v H' l' r trivial rs', hX⟩⟩
theorem hasAt.get {i : Nat} {S : List M} (h : hasAt i S) : ∃ m, S[i]? = some m ∧ m ≠ .gone := by
  unfold hasAt at h
  cases e : S[i]? with
  | none => rw [e] at h; exact False.elim h
  | some m =>
    refine ⟨m, rfl, fun z => ?_⟩
    subst z
    rw [e] at h
    exact h
theorem do_n (i : Nat) {x : Str} {pos : Pos} (hN : X.N[i]? = some x := by rfl) (hv : Vis X.env.scope x := by first | exact Or.inl rfl | exact Or.inr (Or.inl rfl) | exact Or.inr (Or.inr rfl)) (hd : (x == ("__debug__" : Str)) = false := by decide)
    (hcd : (x == ("__classdict__" : Str)) = false := by decide) : DO X W (.Name x pos) (oN i) := ⟨pe_le (pe_var hN hv hd hcd) fun σ H Q h => by
  obtain ⟨G, S, R, XR, l, rs, hF, hQ, hX⟩ := h
  have hG : hasAt i S ∧ R (.n i) S := by
    unfold oN at hF
    unfold hasAt
    split at hF
    · exact hF.elim
    · exact ⟨trivial, hF⟩
    · exact hF.elim
  obtain ⟨m, e, n⟩ := hG.1.get
  obtain ⟨x, e1, r⟩ := rs.take l e
  obtain ⟨v, rfl⟩ := r.some_of n
  exact ⟨v, e1, hQ (.n i) S v H l hG.2 e1 (rs.add0 _)⟩⟩
def osNil : FOs := fun S R _ => R [] S
def osCons (fa : FO) (fr : FOs) : FOs := fun S R XR => fa S (fun a S1 => fr S1 (fun as S2 => R (a :: as) S2) XR) XR
theorem dos_nil : DOs X W [] osNil := ⟨pa_le pa_nil fun σ H Q h => by
  obtain ⟨G, S, R, XR, l, rs, hF, hQ, hX⟩ := h
  exact hQ [] S [] H l hF trivial rs⟩
theorem dos_cons {e : Expr} {es : List Expr} {fa : FO} {fr : FOs} (ha : DO X W e fa) (hr : DOs X W es fr) (hs : starEach (e :: es) X.env = (false, eval e X.env) :: starEach es X.env := by rfl) : DOs X W (e :: es) (osCons fa fr) :=
  ⟨pa_le (pa_cons ha.pe hr.pa hs) fun σ H Q h => by
    obtain ⟨G, S, R, XR, l, rs, hF, hQ, hX⟩ := h
    refine ⟨G, S, _, XR, l, rs, hF, fun a S1 v H1 l1 h1 ok1 rs1 => ?_, hX⟩
    refine ⟨(some v, arM a) :: G, S1, _, XR, l1, rs1, h1, fun as S2 vs H2 l2 h2 ok2 rs2 => ?_, fun c fs S' d H' l' hx xo => hX c fs S' d H' l' hx xo.drop⟩
    refine hQ (a :: as) S2 (v :: vs) H2 l2 h2 ⟨ok1, ok2⟩ ?_
    exact RS.perm (perm_mid _ _ _) rs2⟩

/-! ### lending -/
def takeA : List Ar → List M → List M × List M
  | [], S => ([], S)
  | .m m :: as, S => (m :: (takeA as S).1, (takeA as S).2)
  | .n i :: as, S => match (takeA as S).2[i]? with
    | some (.v d) => (.v d :: (takeA as S).1, (takeA as S).2)
    | some m => (m :: (takeA as S).1, (takeA as S).2.set i .gone)
    | none => (.gone :: (takeA as S).1, (takeA as S).2)
def giveA : List Ar → List M → List M → List M
  | .m _ :: as, _ :: ms, S => giveA as ms S
  | .n i :: as, m :: ms, S => match (giveA as ms S)[i]? with
    | some .gone => (giveA as ms S).set i m
    | _ => giveA as ms S
  | _, _, S => S
theorem takeA_len : ∀ (as : List Ar) (S : List M), (takeA as S).1.length = as.length ∧ (takeA as S).2.length = S.length
  | [], S => ⟨rfl, rfl⟩
  | .m m :: as, S => ⟨congrArg (· + 1) (takeA_len as S).1, (takeA_len as S).2⟩
  | .n i :: as, S => by
    have h := takeA_len as S
    unfold takeA
    split
    · exact ⟨congrArg (· + 1) h.1, h.2⟩
    · exact ⟨congrArg (· + 1) h.1, by rw [List.length_set]; exact h.2⟩
    · exact ⟨congrArg (· + 1) h.1, h.2⟩
theorem giveA_len : ∀ (as : List Ar) (ms S : List M), (giveA as ms S).length = S.length
  | [], ms, S => by unfold giveA; rfl
  | .m m :: as, [], S => by unfold giveA; rfl
  | .n i :: as, [], S => by unfold giveA; rfl
  | .m m :: as, m' :: ms, S => by unfold giveA; exact giveA_len as ms S
  | .n i :: as, m' :: ms, S => by
    have h := giveA_len as ms S
    unfold giveA
    split
    · rw [List.length_set]; exact h
    · exact h
theorem RS.takeA {K : PySem.W.Frag} {H : Hp} {σ : L2.St} {S : List M} (l : σ.length = S.length) : ∀ {as : List Ar} {vs : List V} {G : List Pr}, ArsOk σ as vs → RS K H ((vs.map some).zip (as.map arM) ++ (G ++ σ.zip S)) →
    RS K H ((vs.map some).zip (takeA as S).1 ++ (G ++ σ.zip (takeA as S).2))
  | [], [], G, _, h => h
  | [], _ :: _, G, ok, _ => False.elim ok
  | _ :: _, [], G, ok, _ => False.elim ok
  | .m m :: as, v :: vs, G, ok, h => by
    have h1 : RS K H ((vs.map some).zip (as.map arM) ++ (((some v, m) :: G) ++ σ.zip S)) := RS.perm (perm_mid _ _ _).symm h
    have h2 := RS.takeA l (as := as) (vs := vs) ok.2 h1
    exact RS.perm (perm_mid _ _ _) h2
  | .n i :: as, v :: vs, G, ok, h => by
    have h1 : RS K H ((vs.map some).zip (as.map arM) ++ (G ++ σ.zip S)) := h.drop
    have h2 := RS.takeA l (as := as) (vs := vs) ok.2 h1
    have l2 : σ.length = (DM.takeA as S).2.length := l.trans (takeA_len as S).2.symm
    have hv : σ[i]? = some (some v) := ok.1
    rw [← List.append_assoc] at h2
    unfold DM.takeA
    split
    · rename_i d e
      obtain ⟨v', e1, r⟩ := RS.copy h2 l2 e
      rw [hv] at e1
      cases e1
      rw [List.append_assoc] at r
      exact r
    · rename_i m nv e
      obtain ⟨x, e1, r⟩ := RS.take h2 l2 e
      rw [hv] at e1
      cases e1
      rw [List.append_assoc] at r
      exact r
    · rw [List.append_assoc] at h2
      exact h2.add0 _
theorem RS.giveA {K : PySem.W.Frag} {H : Hp} {σ : L2.St} {S : List M} (l : σ.length = S.length) : ∀ {as : List Ar} {vs : List V} {ms : List M} {G : List Pr}, ArsOk σ as vs → RS K H ((vs.map some).zip ms ++ (G ++ σ.zip S)) →
    RS K H (G ++ σ.zip (giveA as ms S))
  | [], [], ms, G, _, h => by unfold DM.giveA; exact h
  | [], _ :: _, ms, G, ok, _ => False.elim ok
  | _ :: _, [], ms, G, ok, _ => False.elim ok
  | .m m :: as, v :: vs, [], G, ok, h => by unfold DM.giveA; exact h
  | .n i :: as, v :: vs, [], G, ok, h => by unfold DM.giveA; exact h
  | .m m :: as, v :: vs, m' :: ms, G, ok, h => by
    unfold DM.giveA
    exact RS.giveA l (as := as) ok.2 h.drop
  | .n i :: as, v :: vs, m' :: ms, G, ok, h => by
    have hv : σ[i]? = some (some v) := ok.1
    have h1 : RS K H ((vs.map some).zip ms ++ (((some v, m') :: G) ++ σ.zip S)) := RS.perm (perm_mid _ _ _).symm h
    have h2 := RS.giveA l (as := as) (vs := vs) (ms := ms) ok.2 h1
    unfold DM.giveA
    split
    · exact RS.back h2 (l.trans (giveA_len as ms S).symm) hv
    · exact h2.drop

/-! ### operations by values -/
/-- what an operation does with its operands: its value, the operands behind it -/
abbrev BM := List M → RMx → Prop
def takeK : List Ar → List M → (List M → List M → Prop) → Prop
  | [], S, k => k [] S
  | .m m :: as, S, k => takeK as S fun ms S' => k (m :: ms) S'
  | .n i :: as, S, k => takeK as S fun ms S' => getK S' i (fun m => match m with
    | .v d => k (.v d :: ms) S'
    | m => setK S' i .gone fun S'' => k (m :: ms) S'') (k (.gone :: ms) S')
def giveK : List Ar → List M → List M → (List M → Prop) → Prop
  | .m _ :: as, _ :: ms, S, k => giveK as ms S k
  | .n i :: as, m :: ms, S, k => giveK as ms S fun S' => getK S' i (fun x => match x with
    | .gone => setK S' i m k
    | _ => k S') (k S')
  | _, _, S, k => k S
theorem takeK_eq : ∀ (as : List Ar) (S : List M) (k : List M → List M → Prop), takeK as S k = k (takeA as S).1 (takeA as S).2
  | [], _, _ => rfl
  | .m m :: as, S, k => takeK_eq as S _
  | .n i :: as, S, k => by
    unfold takeK takeA
    rw [takeK_eq as S]
    cases e : (takeA as S).2[i]? with
    | none => rw [getK_none e]
    | some m =>
      rw [getK_some e]
      cases m <;> first | rfl | (simp only [setK_eq])
theorem giveK_eq : ∀ (as : List Ar) (ms S : List M) (k : List M → Prop), giveK as ms S k = k (giveA as ms S)
  | [], _, _, _ => by simp only [giveK, giveA]
  | .m _ :: _, [], _, _ => by simp only [giveK, giveA]
  | .n _ :: _, [], _, _ => by simp only [giveK, giveA]
  | .m _ :: as, _ :: ms, S, k => by
    simp only [giveK, giveA]
    exact giveK_eq as ms S k
  | .n i :: as, m :: ms, S, k => by
    simp only [giveK, giveA]
    rw [giveK_eq as ms S]
    cases e : (giveA as ms S)[i]? with
    | none => rw [getK_none e]
    | some x =>
      rw [getK_some e]
      cases x <;> first | rfl | (simp only [setK_eq])
def callB (b : BM) (as : List Ar) (S : List M) (R : RMx) : Prop := takeK as S fun ms S1 => b ms fun r ms' => giveK as ms' S1 fun S2 => R r S2
theorem callB_eq (b : BM) (as : List Ar) (S : List M) (R : RMx) : callB b as S R = b (takeA as S).1 fun r ms' => R r (giveA as ms' (takeA as S).2) := by
  unfold callB
  rw [takeK_eq]
  simp only [giveK_eq]
def rB (K : PySem.W.Frag) (b : BM) (vs : List V) (H : Hp) (Q : VK) : Prop := ∃ (L : List Pr) (ms : List M) (R : RMx), vs.length = ms.length ∧ RS K H ((vs.map some).zip ms ++ L) ∧ b ms R ∧
  ∀ r ms' v H', R r ms' → RS K H' ((some v, r) :: ((vs.map some).zip ms' ++ L)) → Q v H'
def r2B (K : PySem.W.Frag) (b : BM) : R2 := fun x y H Q => rB K b [x, y] H Q
def r1B (K : PySem.W.Frag) (b : BM) : V → Hp → VK → Prop := fun x H Q => rB K b [x] H Q
theorem ArsOk.len {σ : L2.St} : ∀ {as : List Ar} {vs : List V}, ArsOk σ as vs → vs.length = as.length
  | [], [], _ => rfl
  | [], _ :: _, h => False.elim h
  | _ :: _, [], h => False.elim h
  | _ :: as, _ :: vs, h => congrArg (· + 1) (ArsOk.len h.2)
theorem rB_of {K : PySem.W.Frag} {H : Hp} {σ : L2.St} {S : List M} {as : List Ar} {vs : List V} {G : List Pr} {b : BM} {R : RMx} {Q : VK} (l : σ.length = S.length) (ok : ArsOk σ as vs) (rs : RS K H ((vs.map some).zip (as.map arM) ++ (G ++ σ.zip S))) (hb : callB b as S R)
    (hQ : ∀ m S' v H', σ.length = S'.length → R m S' → RS K H' ((some v, m) :: (G ++ σ.zip S')) → Q v H') : rB K b vs H Q := by
  have h := RS.takeA l ok rs
  have tl := takeA_len as S
  rw [callB_eq] at hb
  refine ⟨G ++ σ.zip (takeA as S).2, (takeA as S).1, _, ok.len.trans tl.1.symm, h, hb, fun r ms' v H' hr hs => ?_⟩
  have hs2 : RS K H' ((vs.map some).zip ms' ++ (((some v, r) :: G) ++ σ.zip (takeA as S).2)) := RS.perm (perm_mid _ _ _).symm hs
  have h3 := RS.giveA (l.trans tl.2.symm) ok hs2
  exact hQ r _ v H' (l.trans (tl.2.symm.trans (giveA_len _ _ _).symm)) hr h3
def f2 (b : BM) (fa fb : FO) : FE := fun S R XR => fa S (fun a S1 => fb S1 (fun c S2 => callB b [a, c] S2 R) XR) XR
def f1 (b : BM) (fa : FO) : FE := fun S R XR => fa S (fun a S1 => callB b [a] S1 R) XR
def fB (b : BM) (fs : FOs) : FE := fun S R XR => fs S (fun as S1 => callB b as S1 R) XR
theorem tD_f2 {b : BM} {fa fb : FO} {K : PySem.W.Frag} {σ : L2.St} {H : Hp} {Q : VK} (h : tD K W (f2 b fa fb) σ H Q) : tOp (r2B K b) (tDO K W fa) (tDO K W fb) σ H Q := by
  obtain ⟨G, S, R, XR, l, rs, hF, hQ, hX⟩ := h
  refine ⟨G, S, _, XR, l, rs, hF, fun a S1 x H1 l1 hb ok1 rs1 => ?_, hX⟩
  refine ⟨(some x, arM a) :: G, S1, _, XR, l1, rs1, hb, fun b S2 y H2 l2 hc ok2 rs2 => ?_, fun c fs S' d H' l' hx xo => hX c fs S' d H' l' hx xo.drop⟩
  exact rB_of (as := [a, b]) (vs := [x, y]) l2 ⟨ok1, ok2, trivial⟩ rs2.swap hc hQ
theorem tD_f1 {b : BM} {fa : FO} {K : PySem.W.Frag} {σ : L2.St} {H : Hp} {Q : VK} (h : tD K W (f1 b fa) σ H Q) : tDO K W fa σ H (fun x H1 => r1B K b x H1 Q) := by
  obtain ⟨G, S, R, XR, l, rs, hF, hQ, hX⟩ := h
  exact ⟨G, S, _, XR, l, rs, hF, fun a S1 x H1 l1 hb ok1 rs1 => rB_of (as := [a]) (vs := [x]) l1 ⟨ok1, trivial⟩ rs1 hb hQ, hX⟩
theorem tD_fB {b : BM} {fs : FOs} {K : PySem.W.Frag} {σ : L2.St} {H : Hp} {Q : VK} (h : tD K W (fB b fs) σ H Q) : tDOs K W fs σ H (fun vs H1 => rB K b vs H1 Q) := by
  obtain ⟨G, S, R, XR, l, rs, hF, hQ, hX⟩ := h
  exact ⟨G, S, _, XR, l, rs, hF, fun as S1 vs H1 l1 hb ok1 rs1 => rB_of l1 ok1 rs1 hb hQ, hX⟩
theorem de_op {op : Operator} {g : BM} {a b : Expr} {fa fb : FO} {pos : Pos} (ho : OpR X (binaryOp op) (r2B X.K g)) (ha : DO X W a fa) (hb : DO X W b fb) : DE X W (.BinOp a op b pos) (f2 g fa fb) :=
  ⟨pe_le (pe_op ho ha.pe hb.pe) fun σ H Q h => tD_f2 h⟩
theorem de_un {op : UnaryOp} {g : BM} {a : Expr} {fa : FO} {pos : Pos} (ho : UnR X (unaryOp op) (r1B X.K g)) (ha : DO X W a fa) : DE X W (.UnaryOp op a pos) (f1 g fa) :=
  ⟨pe_le (pe_un ho ha.pe) fun σ H Q h => tD_f1 h⟩
theorem de_cmp {op : CmpOp} {g : BM} {a b : Expr} {fa fb : FO} {pos : Pos} (ho : OpR X (compareOp op) (r2B X.K g)) (ha : DO X W a fa) (hb : DO X W b fb) (hm : behindInMarks op b = false := by rfl) : DE X W (.Compare a [op] [b] pos) (f2 g fa fb) :=
  ⟨pe_le (pe_cmpR ho ha.pe hb.pe hm) fun σ H Q h => tD_f2 h⟩
theorem de_ix {g : BM} {a b : Expr} {fa fb : FO} {pos : Pos} (ho : IxR X (r2B X.K g)) (ha : DO X W a fa) (hb : DO X W b fb) (hs : PlainIx b := by exact fun _ _ => rfl) : DE X W (.Subscript a b pos) (f2 g fa fb) :=
  ⟨pe_le (pe_ix ho ha.pe hb.pe hs) fun σ H Q h => tD_f2 h⟩
theorem de_callB {id : String} {g : BM} {x : Str} {p pos : Pos} {e : Expr} {es : List Expr} {fs : FOs} (hc : CallR X (.builtin id) (rB X.K g)) (hg : Gl X x) (hm : X.mg x = none) (hv : bootBuiltins x = some (.builtin id)) (ha : DOs X W (e :: es) fs) (hn : x ≠ "__name__" := by decide) (hdb : (x == ("__debug__" : Str)) = false := by decide)
    (he : starEach (e :: es) X.env = (false, eval e X.env) :: starEach es X.env := by rfl) (hpl : (backTo pos (starEach es X.env)).any (·.1) = false := by rfl) : DE X W (.Call (.Name x p) (e :: es) [] pos) (fB g fs) :=
  ⟨pe_le (pe_callB hc hg hm hv ha.pa hn hdb he hpl) fun σ H Q h => tD_fB h⟩
theorem de_callTy {T : String} {g : BM} {x : Str} {p pos : Pos} {e : Expr} {es : List Expr} {fs : FOs} (hc : CallR X (.type T) (rB X.K g)) (hg : Gl X x) (hm : X.mg x = none) (hv : bootBuiltins x = some (.type T)) (ha : DOs X W (e :: es) fs) (hn : x ≠ "__name__" := by decide) (hdb : (x == ("__debug__" : Str)) = false := by decide)
    (he : starEach (e :: es) X.env = (false, eval e X.env) :: starEach es X.env := by rfl) (hpl : (backTo pos (starEach es X.env)).any (·.1) = false := by rfl) : DE X W (.Call (.Name x p) (e :: es) [] pos) (fB g fs) :=
  ⟨pe_le (pe_callTy hc hg hm hv ha.pa hn hdb he hpl) fun σ H Q h => tD_fB h⟩
/-- o.m(e, ..), m a method of a built-in type T -/
def fM (b : BM) (fo : FO) (fs : FOs) : FE := fun S R XR => fo S (fun a S1 => fs S1 (fun as S2 => callB b (a :: as) S2 R) XR) XR

/-! ### tests -/
def asB (m : M) (k : Bool → Prop) : Prop := match m with
  | .v (.bl b) => k b
  | _ => False
theorem RS.asB {K : PySem.W.Frag} {H : Hp} {v : V} {m : M} {k : Bool → Prop} {L : List Pr} (h : RS K H ((some v, m) :: L)) (z : asB m k) : ∃ b, v = .bl b ∧ k b := by
  cases m with
  | v d =>
    cases d with
    | bl b =>
      obtain ⟨fp, f2, _, r, _⟩ := h.opn
      cases r with
      | v r => cases r with | bl b => exact ⟨b, rfl, z⟩
    | _ => exact False.elim z
  | _ => exact False.elim z
/-- a value that is True or False, as a test -/
def tOf (F : FE) : FT := fun S R XR => F S (fun m S' => asB m fun b => R b S') XR
theorem tDT_of {F : FE} {K : PySem.W.Frag} {σ : L2.St} {H : Hp} {Q : Bool → Hp → Prop} (h : tDT K W (tOf F) σ H Q) : tTest (tD K W F) σ H Q := by
  obtain ⟨G, S, R, XR, l, rs, hF, hQ, hX⟩ := h
  refine ⟨G, S, _, XR, l, rs, hF, fun a S1 x H1 l1 hb rs1 => ?_, hX⟩
  obtain ⟨b, e, k⟩ := RS.asB rs1 hb
  exact ⟨b, e, hQ b S1 H1 l1 k rs1.drop⟩
theorem dt_cmp {op : CmpOp} {g : BM} {a b : Expr} {fa fb : FO} {pos : Pos} (ho : OpR X (compareOp op) (r2B X.K g)) (ha : DO X W a fa) (hb : DO X W b fb) (hm : behindInMarks op b = false := by rfl) : DT X W (.Compare a [op] [b] pos) (tOf (f2 g fa fb)) :=
  ⟨pt_le (pt_cmpR ho ha.pe hb.pe hm) fun σ H Q h => by
    obtain ⟨G, S, R, XR, l, rs, hF, hQ, hX⟩ := h
    refine tD_f2 (W := W) ⟨G, S, _, XR, l, rs, hF, fun a S1 x H1 l1 hb rs1 => ?_, hX⟩
    obtain ⟨b, e, k⟩ := RS.asB rs1 hb
    exact ⟨b, e, hQ b S1 H1 l1 k rs1.drop⟩⟩
def truD (d : D) (k : Bool → Prop) : Prop := match d with
  | .non => k false
  | .bl b => k b
  | .int i => k (i != 0)
  | .str y => y.length ≤ sizeLine ∧ k ((y.length : Int) != 0)
  | .tup ds => k (!ds.isEmpty)
  | .lst ds => k (!ds.isEmpty)
  | .dK ks _ => k (!ks.isEmpty)
  | _ => False
def tTru (F : FE) : FT := fun S R XR => F S (fun m S' => asD m fun d => truD d fun b => R b S') XR
theorem RDs.isEmpty {K : PySem.W.Frag} {H : Hp} {O : List Addr} {vs : List V} {ds : List D} (r : RDs K H O vs ds) : vs.isEmpty = ds.isEmpty := by
  cases r <;> rfl
theorem tru_of {K : PySem.W.Frag} {H : Hp} {O : List Addr} {v : V} {d : D} {k : Bool → Prop} (h : RD K H O v d) (z : truD d k) : ∃ b, TruV K v H b ∧ k b := by
  cases h with
  | non => exact ⟨_, rfl, z⟩
  | bl b => exact ⟨_, rfl, z⟩
  | int i => exact ⟨_, rfl, z⟩
  | str x => exact ⟨_, ⟨z.1, rfl⟩, z.2⟩
  | ty n => exact False.elim z
  | ptr a => exact False.elim z
  | tup h r => exact ⟨_, .inr (.inl ⟨_, h.sq, rfl⟩), by rw [r.isEmpty]; exact z⟩
  | lst h r => exact ⟨_, .inl ⟨_, h.sq, rfl⟩, by rw [r.isEmpty]; exact z⟩
  | dK n h e r =>
    rename_i kvs ks ds
    refine ⟨!kvs.isEmpty, .inr (.inr ⟨_, h, rfl⟩), ?_⟩
    have z' : k (!ks.isEmpty) := z
    rw [← e] at z'
    cases kvs <;> exact z'
  | dT n h e r => exact False.elim z
  | obj n h e r => exact False.elim z
end
end DM

/-! Operations over data. -/
namespace DM
open PySem PySem.Spec PyProof.Rows
open L2

def lsV : M → Option (List D)
  | .v (.lst ds) => some ds
  | .ml ds => some ds
  | _ => none
def tpV : M → Option (List D)
  | .v (.tup ds) => some ds
  | _ => none
/-- a list or a tuple -/
def sqV : M → Option (List D)
  | .v (.lst ds) => some ds
  | .v (.tup ds) => some ds
  | .ml ds => some ds
  | _ => none
section
variable {K : PySem.W.Frag} {H : Hp} {O : List Addr} {x : Option V} {fp : List Addr}
theorem RM.ls {m : M} {ds : List D} (h : RM K H O x m fp) (e : lsV m = some ds) : ∃ a vs, x = some (.ref a) ∧ SqL K H a vs ∧ RDs K H O vs ds := by
  cases h with
  | v h =>
    cases h with
    | lst h r => cases e; exact ⟨_, _, rfl, h.sq, r⟩
    | _ => cases e
  | ml h r => cases e; exact ⟨_, _, rfl, .inl (.inl h), r⟩
  | _ => cases e
theorem RM.tp {m : M} {ds : List D} (h : RM K H O x m fp) (e : tpV m = some ds) : ∃ a vs, x = some (.ref a) ∧ SqT K H a vs ∧ RDs K H O vs ds := by
  cases h with
  | v h =>
    cases h with
    | tup h r => cases e; exact ⟨_, _, rfl, h.sq, r⟩
    | _ => cases e
  | _ => cases e
theorem RM.sq {m : M} {ds : List D} (h : RM K H O x m fp) (e : sqV m = some ds) : ∃ a vs, x = some (.ref a) ∧ (SqL K H a vs ∨ SqT K H a vs) ∧ RDs K H O vs ds := by
  cases h with
  | v h =>
    cases h with
    | tup h r => cases e; exact ⟨_, _, rfl, .inr h.sq, r⟩
    | lst h r => cases e; exact ⟨_, _, rfl, .inl h.sq, r⟩
    | _ => cases e
  | ml h r => cases e; exact ⟨_, _, rfl, .inl (.inl (.inl h)), r⟩
  | _ => cases e
theorem RM.int {i : Int} (h : RM K H O x (.v (.int i)) fp) : x = some (.int i) := by cases h with | v h => cases h; rfl
theorem RM.bl {i : Bool} (h : RM K H O x (.v (.bl i)) fp) : x = some (.bl i) := by cases h with | v h => cases h; rfl
theorem RM.str {i : Str} (h : RM K H O x (.v (.str i)) fp) : x = some (.str i) := by cases h with | v h => cases h; rfl
theorem RM.ty {i : String} (h : RM K H O x (.v (.ty i)) fp) : x = some (.ty i) := by cases h with | v h => cases h; rfl
theorem RM.non (h : RM K H O x (.v .non) fp) : x = some .non := by cases h with | v h => cases h; rfl
/-- a result with no object -/
theorem RS.val {L : List Pr} (rs : RS K H L) {v : V} {d : D} (f : ∀ O, RD K H O v d) : RS K H ((some v, .v d) :: L) := rs.data f
theorem RS.int {L : List Pr} (rs : RS K H L) (i : Int) : RS K H ((some (.int i), .v (.int i)) :: L) := rs.data fun _ => .int i
theorem RS.bl {L : List Pr} (rs : RS K H L) (i : Bool) : RS K H ((some (.bl i), .v (.bl i)) :: L) := rs.data fun _ => .bl i
theorem RS.str {L : List Pr} (rs : RS K H L) (i : Str) : RS K H ((some (.str i), .v (.str i)) :: L) := rs.data fun _ => .str i
theorem RS.two {x y : Option V} {a b : M} {L : List Pr} (rs : RS K H ((x, a) :: (y, b) :: L)) : ∃ O f1 f2 : List Addr, O.Nodup ∧ RM K H O x a f1 ∧ RM K H O y b f2 ∧ RL K H O ((x, a) :: (y, b) :: L) O := by
  obtain ⟨O, n, r⟩ := rs
  generalize hO : O = O' at r
  have r' := r
  cases r with
  | cons h1 r => cases r with | cons h2 r => subst hO; exact ⟨_, _, _, n, h1, h2, r'⟩
theorem RS.one {x : Option V} {a : M} {L : List Pr} (rs : RS K H ((x, a) :: L)) : ∃ O f1 : List Addr, O.Nodup ∧ RM K H O x a f1 ∧ RL K H O ((x, a) :: L) O := by
  obtain ⟨O, n, r⟩ := rs
  have r' := r
  generalize hO : O = O' at r'
  cases r' with
  | cons h1 r' => subst hO; exact ⟨_, _, n, h1, r⟩
end

section
variable {X : Cx}
/-- two ints to an int -/
def iiB (C : Int → Int → Prop) (g : Int → Int → Int) : BM := fun ms R => match ms with
  | [.v (.int i), .v (.int j)] => C i j ∧ R (.v (.int (g i j))) ms
  | _ => False
/-- .. without a condition -/
def iiB0 (g : Int → Int → Int) : BM := fun ms R => match ms with
  | [.v (.int i), .v (.int j)] => R (.v (.int (g i j))) ms
  | _ => False
def ibB (g : Int → Int → Bool) : BM := fun ms R => match ms with
  | [.v (.int i), .v (.int j)] => R (.v (.bl (g i j))) ms
  | _ => False
theorem two_of {α : Type} {xs : List α} (h : xs.length = 2) : ∃ a b, xs = [a, b] := match xs, h with | [a, b], _ => ⟨a, b, rfl⟩
theorem one_of {α : Type} {xs : List α} (h : xs.length = 1) : ∃ a, xs = [a] := match xs, h with | [a], _ => ⟨a, rfl⟩
theorem op_ii {f : Value → Value → Sem Value} {C C' : Int → Int → Prop} {g : Int → Int → Int} (ho : OpR X f (rI C fun i j => .int (g i j))) (hc : ∀ i j, C' i j → C i j) : OpR X f (r2B X.K (iiB C' g)) := by
  intro pins s σ H x y v u Q I rx ry h
  obtain ⟨L, ms, R, l, rs, hb, hQ⟩ := h
  unfold iiB at hb
  split at hb
  · rename_i i j
    obtain ⟨O, f1, f2, n, h1, h2, r⟩ := RS.two rs
    have e1 := h1.int
    have e2 := h2.int
    cases e1
    cases e2
    exact ho pins s σ H _ _ v u Q I rx ry ⟨i, j, rfl, rfl, hc _ _ hb.1, hQ _ _ _ H hb.2 (rs.int _)⟩
  · exact hb.elim
theorem op_ii0 {f : Value → Value → Sem Value} {g : Int → Int → Int} (ho : OpR X f (rI0 fun i j => .int (g i j))) : OpR X f (r2B X.K (iiB0 g)) := by
  intro pins s σ H x y v u Q I rx ry h
  obtain ⟨L, ms, R, l, rs, hb, hQ⟩ := h
  unfold iiB0 at hb
  split at hb
  · rename_i i j
    obtain ⟨O, f1, f2, n, h1, h2, r⟩ := RS.two rs
    have e1 := h1.int
    have e2 := h2.int
    cases e1
    cases e2
    exact ho pins s σ H _ _ v u Q I rx ry ⟨i, j, rfl, rfl, hQ _ _ _ H hb (rs.int _)⟩
  · exact hb.elim
theorem op_ib {f : Value → Value → Sem Value} {g : Int → Int → Bool} (ho : OpR X f (rI0 fun i j => .bl (g i j))) : OpR X f (r2B X.K (ibB g)) := by
  intro pins s σ H x y v u Q I rx ry h
  obtain ⟨L, ms, R, l, rs, hb, hQ⟩ := h
  unfold ibB at hb
  split at hb
  · rename_i i j
    obtain ⟨O, f1, f2, n, h1, h2, r⟩ := RS.two rs
    have e1 := h1.int
    have e2 := h2.int
    cases e1
    cases e2
    exact ho pins s σ H _ _ v u Q I rx ry ⟨i, j, rfl, rfl, hQ _ _ _ H hb (rs.bl _)⟩
  · exact hb.elim
def MulOk (i j : Int) : Prop := IntMulOk i j
def DivOk (j : Int) : Prop := 0 < j ∧ j.natAbs.log2 < 9000
theorem MulOk.right {i j : Int} (h1 : -(2 ^ 64) < j) (h2 : j < 2 ^ 64) : MulOk i j := .of_right (intBits_le_64 h1 h2)
theorem MulOk.left {i j : Int} (h1 : -(2 ^ 64) < i) (h2 : i < 2 ^ 64) : MulOk i j := .of_left (intBits_le_64 h1 h2)
theorem DivOk.small {j : Int} (h1 : 0 < j) (h2 : j < 2 ^ 64) : DivOk j := (wide_div (i := 0) h1 (b := 64) (by omega) (by decide) (by decide))
def C0 (_ _ : Int) : Prop := True
def subB : BM := fun ms R => match ms with
  | [.v (.int i), .v (.int j)] => R (.v (.int (i - j))) ms
  | _ => False
def mulB : BM := fun ms R => match ms with
  | [.v (.int i), .v (.int j)] => MulOk i j ∧ R (.v (.int (i * j))) ms
  | _ => False
def divB : BM := fun ms R => match ms with
  | [.v (.int i), .v (.int j)] => DivOk j ∧ R (.v (.int (i / j))) ms
  | _ => False
def modB : BM := fun ms R => match ms with
  | [.v (.int i), .v (.int j)] => 0 < j ∧ R (.v (.int (i % j))) ms
  | _ => False
def powB : BM := fun ms R => match ms with
  | [.v (.int i), .v (.int j)] => CPow i j ∧ R (.v (.int (i ^ j.toNat))) ms
  | _ => False
def shlB : BM := fun ms R => match ms with
  | [.v (.int i), .v (.int j)] => CPow i j ∧ R (.v (.int (i * 2 ^ j.toNat))) ms
  | _ => False
def shrB : BM := fun ms R => match ms with
  | [.v (.int i), .v (.int j)] => 0 ≤ j ∧ R (.v (.int (i / 2 ^ j.toNat))) ms
  | _ => False
def andB : BM := fun ms R => match ms with
  | [.v (.int i), .v (.int j)] => R (.v (.int (Builtin.bitAnd i j))) ms
  | _ => False
theorem rI_of0 {f : Value → Value → Sem Value} {g : Int → Int → Int} (ho : OpR X f (rI0 fun i j => .int (g i j))) : OpR X f (rI C0 fun i j => .int (g i j)) :=
  fun pins s σ H x y v u Q I rx ry ⟨i, j, a, b, _, q⟩ => ho pins s σ H x y v u Q I rx ry ⟨i, j, a, b, q⟩
theorem op_le2 {f : Value → Value → Sem Value} {b b' : BM} (h : ∀ ms R, b ms R → b' ms R) (ho : OpR X f (r2B X.K b')) : OpR X f (r2B X.K b) :=
  fun pins s σ H x y v u Q I rx ry ⟨L, ms, R, l, rs, hb, hQ⟩ => ho pins s σ H x y v u Q I rx ry ⟨L, ms, R, l, rs, h _ _ hb, hQ⟩
theorem o_sub : OpR X (binaryOp .Sub) (r2B X.K subB) := op_le2 (b' := iiB0 _) (fun ms R h => by unfold subB at h; unfold iiB0; split at h <;> first | exact h | exact h.elim) (op_ii0 op_sub)
theorem o_mul : OpR X (binaryOp .Mult) (r2B X.K mulB) := op_le2 (b' := iiB _ _) (fun ms R h => by unfold mulB at h; unfold iiB; split at h <;> first | exact h | exact h.elim) (op_ii (opI fun _ _ _ _ _ _ _ hc q => mul_int q hc) fun _ _ h => h)
theorem o_div : OpR X (binaryOp .FloorDiv) (r2B X.K divB) := op_le2 (b' := iiB _ _) (fun ms R h => by unfold divB at h; unfold iiB; split at h <;> first | exact h | exact h.elim) (op_ii op_fdivW fun _ _ h => h)
theorem o_mod : OpR X (binaryOp .Mod) (r2B X.K modB) := op_le2 (b' := iiB _ _) (fun ms R h => by unfold modB at h; unfold iiB; split at h <;> first | exact h | exact h.elim) (op_ii op_mod fun _ _ h => h)
theorem o_pow : OpR X (binaryOp .Pow) (r2B X.K powB) := op_le2 (b' := iiB _ _) (fun ms R h => by unfold powB at h; unfold iiB; split at h <;> first | exact h | exact h.elim) (op_ii op_pow fun _ _ h => h)
theorem o_shl : OpR X (binaryOp .LShift) (r2B X.K shlB) := op_le2 (b' := iiB _ _) (fun ms R h => by unfold shlB at h; unfold iiB; split at h <;> first | exact h | exact h.elim) (op_ii op_shl fun _ _ h => h)
theorem o_shr : OpR X (binaryOp .RShift) (r2B X.K shrB) := op_le2 (b' := iiB _ _) (fun ms R h => by unfold shrB at h; unfold iiB; split at h <;> first | exact h | exact h.elim) (op_ii op_shr fun _ _ h => h)
theorem o_and : OpR X (binaryOp .BitAnd) (r2B X.K andB) := op_le2 (b' := iiB0 _) (fun ms R h => by unfold andB at h; unfold iiB0; split at h <;> first | exact h | exact h.elim) (op_ii0 op_and)
def negB : BM := fun ms R => match ms with
  | [.v (.int i)] => R (.v (.int (-i))) ms
  | _ => False
theorem o_neg : UnR X (unaryOp .USub) (r1B X.K negB) := by
  intro pins s σ H x v Q I rx h
  obtain ⟨L, ms, R, l, rs, hb, hQ⟩ := h
  unfold negB at hb
  split at hb
  · obtain ⟨O, f1, n, h1, r⟩ := RS.one rs
    have e1 := h1.int
    cases e1
    exact un_neg pins s σ H _ v Q I rx ⟨_, rfl, hQ _ _ _ H hb (rs.int _)⟩
  · exact hb.elim
def ltB : BM := fun ms R => match ms with
  | [.v (.int i), .v (.int j)] => R (.v (.bl (decide (i < j)))) ms
  | _ => False
def leB : BM := fun ms R => match ms with
  | [.v (.int i), .v (.int j)] => R (.v (.bl (decide (i ≤ j)))) ms
  | _ => False
def gtB : BM := fun ms R => match ms with
  | [.v (.int i), .v (.int j)] => R (.v (.bl (decide (j < i)))) ms
  | _ => False
def geB : BM := fun ms R => match ms with
  | [.v (.int i), .v (.int j)] => R (.v (.bl (decide (j ≤ i)))) ms
  | _ => False
theorem o_lt : OpR X (compareOp .Lt) (r2B X.K ltB) := op_le2 (b' := ibB _) (fun ms R h => by unfold ltB at h; unfold ibB; split at h <;> first | exact h | exact h.elim) (op_ib op_lt)
theorem o_le : OpR X (compareOp .LtE) (r2B X.K leB) := op_le2 (b' := ibB _) (fun ms R h => by unfold leB at h; unfold ibB; split at h <;> first | exact h | exact h.elim) (op_ib op_le)
theorem o_gt : OpR X (compareOp .Gt) (r2B X.K gtB) := op_le2 (b' := ibB _) (fun ms R h => by unfold gtB at h; unfold ibB; split at h <;> first | exact h | exact h.elim) (op_ib op_gt)
theorem o_ge : OpR X (compareOp .GtE) (r2B X.K geB) := op_le2 (b' := ibB _) (fun ms R h => by unfold geB at h; unfold ibB; split at h <;> first | exact h | exact h.elim) (op_ib op_ge)

/-! ### + -/
def addB : BM := fun ms R => match ms with
  | [.v (.int i), .v (.int j)] => R (.v (.int (i + j))) ms
  | [.v (.str x), .v (.str y)] => x.length + y.length ≤ sizeLine ∧ R (.v (.str (x ++ y))) ms
  | [.v (.tup ds), .v (.tup es)] => ds.length + es.length ≤ sizeLine ∧ R (.v (.tup (ds ++ es))) ms
  | [a, b] => ∃ ds es, lsV a = some ds ∧ lsV b = some es ∧ ds.length + es.length ≤ sizeLine ∧ R (.ml (ds ++ es)) ms
  | _ => False
/-- two lists of any standing -/
theorem op_catL {pins : List (Addr × Obj)} {s : Shared} {σ : L2.St} {H : Hp} {Q : VK} {a b : Addr} {xs ys : List V} (I : Inv X pins σ H s) (ha : SqL X.K H a xs) (hb : SqL X.K H b ys) (hz : xs.length + ys.length ≤ sizeLine)
    (q : ∀ p, H p = none → Q (.ref p) (upd H p (.lst (xs ++ ys)))) : wpAny (model X.prog X.w) X.A (binaryOp .Add (.ref a) (.ref b)) (EP X pins σ Q) X.xe s := by
  obtain ⟨its, r, pl, z⟩ := I.list ha
  obtain ⟨its2, r2, pl2, z2⟩ := I.list hb
  have hl := r.length
  have hl2 := r2.length
  obtain ⟨⟨cls, dd, data, sl⟩, n, ho, hc, hdd, hd⟩ := pl
  obtain ⟨⟨cls2, dd2, data2, sl2⟩, n2, ho2, hc2, hdd2, hd2⟩ := pl2
  simp only at hc hd hc2 hd2
  subst hc hd hc2 hd2
  have e : its.toArray ++ its2.toArray = (its ++ its2).toArray := by simp
  refine concat_meets ⟨_, ho, rfl⟩ ⟨_, ho2, rfl⟩ noFill_list_add seq_list_add PySem.F.slot_list_add PySem.F.entry_list_add (PySem.F.args_list_add_2 _ _) (list_addW a b its.toArray its2.toArray n n2 dd dd2 sl sl2 (by rw [List.size_toArray, List.size_toArray]; omega)) ⟨ho, ho2, ?_⟩
  rw [e]
  exact ⟨.ref _, _, I.lnew (t' := s.toks) (r.append r2) (by rw [List.length_append]; omega), rfl, q _ I.fresh⟩
theorem o_add : OpR X (binaryOp .Add) (r2B X.K addB) := by
  intro pins s σ H x y v u Q I rx ry h
  obtain ⟨L, ms, R, l, rs, hb, hQ⟩ := h
  unfold addB at hb
  split at hb
  · rename_i i j
    obtain ⟨O, f1, f2, n, h1, h2, r⟩ := RS.two rs
    have e1 := h1.int
    have e2 := h2.int
    cases e1
    cases e2
    exact op_add pins s σ H _ _ v u Q I rx ry ⟨i, j, rfl, rfl, hQ _ _ _ H hb (rs.int _)⟩
  · rename_i i j
    obtain ⟨O, f1, f2, n, h1, h2, r⟩ := RS.two rs
    have e1 := h1.str
    have e2 := h2.str
    cases e1
    cases e2
    exact op_add_str pins s σ H _ _ v u Q I rx ry ⟨i, j, rfl, rfl, hb.1, hQ _ _ _ H hb.2 (rs.str _)⟩
  · rename_i ds es
    obtain ⟨O, f1, f2, n, h1, h2, r⟩ := RS.two rs
    obtain ⟨a, vs, e1, s1, r1⟩ := h1.tp rfl
    obtain ⟨b, ws, e2, s2, r2⟩ := h2.tp rfl
    cases e1
    cases e2
    refine op_catA pins s σ H _ _ v u Q I rx ry ⟨a, b, vs, ws, rfl, rfl, s1, s2, by rw [r1.length, r2.length]; exact hb.1, fun e => ?_, fun e e' => ?_, fun e e' p hp => ?_⟩
    · subst e
      cases r1
      refine hQ _ _ _ H hb.2 ?_
      have q := (RS.dup rs.swap)
      exact RS.perm (List.Perm.cons _ (.swap _ _ _)) q
    · subst e'
      cases r2
      have q := RS.dup rs
      rw [List.append_nil] at hb
      exact hQ _ _ _ H hb.2 q
    · exact hQ _ _ _ _ hb.2 (RS.newTup ⟨O, n, r1.append r2, r⟩ hp)
  · rename_i a b _ _ _
    obtain ⟨ds, es, e1, e2, z, hr⟩ := hb
    obtain ⟨O, f1, f2, n, h1, h2, r⟩ := RS.two rs
    obtain ⟨a, vs, e3, s1, r1⟩ := h1.ls e1
    obtain ⟨b, ws, e4, s2, r2⟩ := h2.ls e2
    cases e3
    cases e4
    cases rx
    cases ry
    exact op_catL I s1 s2 (by rw [r1.length, r2.length]; exact z) fun p hp => hQ _ _ _ _ hr (RS.newLst ⟨O, n, r1.append r2, r⟩ hp)
  · exact hb.elim

/-! ### equality -/
mutual
def pyD : D → Option PyData
  | .non => some .none
  | .bl b => some (.bool b)
  | .int i => some (.int i)
  | .str x => some (.str x)
  | .tup ds => (pyDs ds).map .tuple
  | .lst ds => (pyDs ds).map .list
  | _ => none
def pyDs : List D → Option (List PyData)
  | [] => some []
  | d :: ds => match pyD d, pyDs ds with
    | some p, some ps => some (p :: ps)
    | _, _ => none
end
def pyM : M → Option PyData
  | .v d => pyD d
  | .ml ds => (pyDs ds).map .list
  | _ => none
mutual
theorem dp_of {K : PySem.W.Frag} {H : Hp} {O : List Addr} : ∀ {v : V} {d : D} {p : PyData}, RD K H O v d → pyD d = some p → Dp K H v p
  | _, _, _, .non, e => by cases e; exact .non
  | _, _, _, .bl b, e => by cases e; exact .bl b
  | _, _, _, .int i, e => by cases e; exact .int i
  | _, _, _, .str x, e => by cases e; exact .str x
  | _, _, _, .ty n, e => nomatch e
  | _, _, _, .ptr a, e => nomatch e
  | _, _, _, .tup (ds := ds) h r, e => by
    rw [pyD] at e
    cases q : pyDs ds with
    | none => rw [q] at e; cases e
    | some ps => rw [q] at e; cases e; exact .tup h.sq (dps_of r q)
  | _, _, _, .lst (ds := ds) h r, e => by
    rw [pyD] at e
    cases q : pyDs ds with
    | none => rw [q] at e; cases e
    | some ps => rw [q] at e; cases e; exact .lst h.sq (dps_of r q)
  | _, _, _, .dK n h e' r, e => nomatch e
  | _, _, _, .dT n h e' r, e => nomatch e
  | _, _, _, .obj n h e' r, e => nomatch e
theorem dps_of {K : PySem.W.Frag} {H : Hp} {O : List Addr} : ∀ {vs : List V} {ds : List D} {ps : List PyData}, RDs K H O vs ds → pyDs ds = some ps → DpAll K H vs ps
  | _, _, _, .nil, e => by cases e; exact .nil
  | _, _, _, .cons (d := d) (ds := ds) h r, e => by
    rw [pyDs] at e
    cases q : pyD d with
    | none => rw [q] at e; cases e
    | some p =>
      cases q2 : pyDs ds with
      | none => rw [q, q2] at e; cases e
      | some ps => rw [q, q2] at e; cases e; exact .cons (dp_of h q) (dps_of r q2)
end
theorem dpM {K : PySem.W.Frag} {H : Hp} {O : List Addr} {v : V} {m : M} {fp : List Addr} {p : PyData} (h : RM K H O (some v) m fp) (e : pyM m = some p) : Dp K H v p := by
  cases h with
  | v h => exact dp_of h e
  | ml h r =>
    rename_i vs ds
    rw [pyM] at e
    cases q : pyDs ds with
    | none => rw [q] at e; cases e
    | some ps => rw [q] at e; cases e; exact .lst (.inl (.inl h)) (dps_of r q)
  | _ => cases e
def eqB : BM := fun ms R => match ms with
  | [.v (.int i), .v (.int j)] => R (.v (.bl (decide (i = j)))) ms
  | [.v (.str x), .v (.str y)] => R (.v (.bl (decide (x = y)))) ms
  | [.v (.bl x), .v (.bl y)] => R (.v (.bl (decide (x = y)))) ms
  | [a, b] => ∃ p q, pyM a = some p ∧ pyM b = some q ∧ SeqAt.shaped p = true ∧ SeqAt.shaped q = true ∧ R (.v (.bl (PyData.eqv p q))) ms
  | _ => False
def neB : BM := fun ms R => match ms with
  | [.v (.int i), .v (.int j)] => R (.v (.bl (decide (i ≠ j)))) ms
  | [.v (.str x), .v (.str y)] => R (.v (.bl (decide (x ≠ y)))) ms
  | [.v (.bl x), .v (.bl y)] => R (.v (.bl (decide (x ≠ y)))) ms
  | [a, b] => ∃ p q, pyM a = some p ∧ pyM b = some q ∧ SeqAt.shaped p = true ∧ SeqAt.shaped q = true ∧ R (.v (.bl (!PyData.eqv p q))) ms
  | _ => False
theorem decide_int (i j : Int) : decide ((V.int i) = V.int j) = decide (i = j) := by simp
theorem decide_str (i j : Str) : decide ((V.str i) = V.str j) = decide (i = j) := by simp
theorem decide_bl (i j : Bool) : decide ((V.bl i) = V.bl j) = decide (i = j) := by simp
theorem o_eq (hu : X.A.units + 64 < cLine) : OpR X (compareOp .Eq) (r2B X.K eqB) := by
  intro pins s σ H x y v u Q I rx ry h
  obtain ⟨L, ms, R, l, rs, hb, hQ⟩ := h
  unfold eqB at hb
  split at hb
  · rename_i i j
    obtain ⟨O, f1, f2, n, h1, h2, r⟩ := RS.two rs
    have e1 := h1.int
    have e2 := h2.int
    cases e1
    cases e2
    exact op_eq pins s σ H _ _ v u Q I rx ry ⟨rfl, by rw [decide_int]; exact hQ _ _ _ H hb (rs.bl _)⟩
  · rename_i i j
    obtain ⟨O, f1, f2, n, h1, h2, r⟩ := RS.two rs
    have e1 := h1.str
    have e2 := h2.str
    cases e1
    cases e2
    exact op_eq pins s σ H _ _ v u Q I rx ry ⟨rfl, by rw [decide_str]; exact hQ _ _ _ H hb (rs.bl _)⟩
  · rename_i i j
    obtain ⟨O, f1, f2, n, h1, h2, r⟩ := RS.two rs
    have e1 := h1.bl
    have e2 := h2.bl
    cases e1
    cases e2
    exact op_eq pins s σ H _ _ v u Q I rx ry ⟨rfl, by rw [decide_bl]; exact hQ _ _ _ H hb (rs.bl _)⟩
  · obtain ⟨p, q, e1, e2, z1, z2, hr⟩ := hb
    obtain ⟨O, f1, f2, n, h1, h2, r⟩ := RS.two rs
    exact op_eqD hu pins s σ H _ _ v u Q I rx ry ⟨p, q, dpM h1 e1, dpM h2 e2, z1, z2, hQ _ _ _ H hr (rs.bl _)⟩
  · exact hb.elim
theorem o_ne (hu : X.A.units + 64 < cLine) : OpR X (compareOp .NotEq) (r2B X.K neB) := by
  intro pins s σ H x y v u Q I rx ry h
  obtain ⟨L, ms, R, l, rs, hb, hQ⟩ := h
  unfold neB at hb
  split at hb
  · rename_i i j
    obtain ⟨O, f1, f2, n, h1, h2, r⟩ := RS.two rs
    have e1 := h1.int
    have e2 := h2.int
    cases e1
    cases e2
    exact op_ne pins s σ H _ _ v u Q I rx ry ⟨rfl, by rw [decide_int, ← decide_not]; exact hQ _ _ _ H hb (rs.bl _)⟩
  · rename_i i j
    obtain ⟨O, f1, f2, n, h1, h2, r⟩ := RS.two rs
    have e1 := h1.str
    have e2 := h2.str
    cases e1
    cases e2
    exact op_ne pins s σ H _ _ v u Q I rx ry ⟨rfl, by rw [decide_str, ← decide_not]; exact hQ _ _ _ H hb (rs.bl _)⟩
  · rename_i i j
    obtain ⟨O, f1, f2, n, h1, h2, r⟩ := RS.two rs
    have e1 := h1.bl
    have e2 := h2.bl
    cases e1
    cases e2
    exact op_ne pins s σ H _ _ v u Q I rx ry ⟨rfl, by rw [decide_bl, ← decide_not]; exact hQ _ _ _ H hb (rs.bl _)⟩
  · obtain ⟨p, q, e1, e2, z1, z2, hr⟩ := hb
    obtain ⟨O, f1, f2, n, h1, h2, r⟩ := RS.two rs
    exact op_neD hu pins s σ H _ _ v u Q I rx ry ⟨p, q, dpM h1 e1, dpM h2 e2, z1, z2, hQ _ _ _ H hr (rs.bl _)⟩
  · exact hb.elim
/-- .. is None -/
def isN : M → Option Bool
  | .v .non => some true
  | .v _ => some false
  | .gone => none
  | _ => some false
def isNB : BM := fun ms R => match ms with
  | [a, .v .non] => match isN a with
    | some b => R (.v (.bl b)) ms
    | none => False
  | _ => False
def notNB : BM := fun ms R => match ms with
  | [a, .v .non] => match isN a with
    | some true => R (.v (.bl false)) ms
    | some false => R (.v (.bl true)) ms
    | none => False
  | _ => False
theorem isN_of {K : PySem.W.Frag} {H : Hp} {O : List Addr} {v : V} {m : M} {fp : List Addr} {b : Bool} (h : RM K H O (some v) m fp) (e : isN m = some b) : decide (v = .non) = b := by
  cases h with
  | v h => cases h <;> (cases e; rfl)
  | gone => cases e
  | ml h r => cases e; rfl
  | mk h e' r => cases e; rfl
  | mt h e' r => cases e; rfl
  | mo h e' l r => cases e; rfl
theorem o_isN : OpR X (compareOp .Is) (r2B X.K isNB) := by
  intro pins s σ H x y v u Q I rx ry h
  obtain ⟨L, ms, R, l, rs, hb, hQ⟩ := h
  unfold isNB at hb
  split at hb
  · rename_i a
    obtain ⟨O, f1, f2, n, h1, h2, r⟩ := RS.two rs
    have e2 := h2.non
    cases e2
    cases e : isN a with
    | none => rw [e] at hb; exact hb.elim
    | some b =>
      rw [e] at hb
      have e3 := isN_of h1 e
      exact op_isN pins s σ H _ _ v u Q I rx ry ⟨rfl, by rw [e3]; exact hQ _ _ _ H hb (rs.bl _)⟩
  · exact hb.elim
theorem o_notN : OpR X (compareOp .IsNot) (r2B X.K notNB) := by
  intro pins s σ H x y v u Q I rx ry h
  obtain ⟨L, ms, R, l, rs, hb, hQ⟩ := h
  unfold notNB at hb
  split at hb
  · rename_i a
    obtain ⟨O, f1, f2, n, h1, h2, r⟩ := RS.two rs
    have e2 := h2.non
    cases e2
    cases e : isN a with
    | none => rw [e] at hb; exact hb.elim
    | some b =>
      rw [e] at hb
      have e3 := isN_of h1 e
      cases b with
      | true => exact op_notN pins s σ H _ _ v u Q I rx ry ⟨rfl, by rw [e3]; exact hQ _ _ _ H hb (rs.bl _)⟩
      | false => exact op_notN pins s σ H _ _ v u Q I rx ry ⟨rfl, by rw [e3]; exact hQ _ _ _ H hb (rs.bl _)⟩
  · exact hb.elim
end
end DM

/-! Items, slices, built-in calls. -/
namespace DM
open PySem PySem.Spec PyProof.Rows
open L2

section
variable {prog : Program} {w : World} {A : Around} {E : Value → Shared → Prop} {s : Shared}
theorem adjust_rev (n : Nat) : Builtin.Slice.sliceAdjust none none (-1) (n : Int) = ((n : Int) - 1, -1) := by
  unfold Builtin.Slice.sliceAdjust
  simp
theorem places_rev (n : Nat) : Builtin.Slice.slicePlaces ((n : Int) - 1) (-1) (-1) = n := by
  unfold Builtin.Slice.slicePlaces
  have h1 : ¬ ((-1 : Int) > 0) := by omega
  simp only [h1, if_false]
  by_cases h : (n : Int) - 1 > -1
  · rw [if_pos h]
    have e : ((n : Int) - 1 - -1 - 1) = (n : Int) - 1 := by omega
    rw [e, show (- -1 : Int) = 1 by decide, Int.ediv_one]
    omega
  · rw [if_neg h]
    omega
theorem sliceApplied_rev {sl : Addr} {vl vu vs : Value} {n : Nat} {Q : Int × Int × Nat → Shared → Prop} (hs : s.heap.IsSliceOf sl vl vu vs) (pl : IsPart vl none) (pu : IsPart vu none) (ps : IsPart vs (some (-1)))
    (h : Q ((n : Int) - 1, -1, n) s) : wpAny (model prog w) A (Builtin.Slice.sliceApplied (.ref sl) (pure (n : Int))) Q E s := by
  obtain ⟨os, hos, hcs, hds⟩ := id hs
  unfold Builtin.Slice.sliceApplied Builtin.Slice.sliceFields
  refine wpAny_bind (wpAny_bind (wpAny_field hos hds (x := vl) rfl (wpAny_bind (wpAny_field hos hds (x := vu) rfl (wpAny_bind (wpAny_field hos hds (x := vs) rfl (wpAny_pure ?_)))))))
  refine wpAny_bind (HT.slicePart_ ps ?_)
  show wpAny _ _ (if ((-1 : Int) == 0) = true then _ else _) _ _ s
  rw [if_neg (by decide)]
  refine wpAny_bind (HT.slicePart_ pl (wpAny_bind (HT.slicePart_ pu (wpAny_bind (wpAny_pure ?_)))))
  show wpAny _ _ (match Builtin.Slice.sliceAdjust none none (-1) (n : Int) with | (lo, hi) => pure (lo, (-1 : Int), Builtin.Slice.slicePlaces lo hi (-1))) _ _ s
  rw [adjust_rev n]
  show wpAny _ _ (pure ((n : Int) - 1, (-1 : Int), Builtin.Slice.slicePlaces ((n : Int) - 1) (-1) (-1))) _ _ s
  rw [places_rev]
  exact wpAny_pure h
theorem filterMap_all {α β : Type} {f : α → Option β} {g : α → β} : ∀ (l : List α), (∀ m ∈ l, f m = some (g m)) → l.filterMap f = l.map g
  | [], _ => rfl
  | a :: l, h => by rw [List.filterMap_cons, h a List.mem_cons_self, List.map_cons, filterMap_all l fun m hm => h m (List.mem_cons_of_mem _ hm)]
theorem pick_rev (xs : Array Value) : ((List.range xs.size).filterMap fun (m : Nat) => xs[(((xs.size : Int) - 1) + (m : Int) * (-1)).toNat]?) = xs.toList.reverse := by
  apply List.ext_getElem?
  intro j
  by_cases hj : j < xs.size
  · have e : (List.range xs.size).filterMap (fun (m : Nat) => xs[(((xs.size : Int) - 1) + (m : Int) * (-1)).toNat]?) = (List.range xs.size).map (fun m => if h : m < xs.size then xs[xs.size - 1 - m]'(by omega) else Value.none) := by
      refine filterMap_all _ fun m hm => ?_
      have hm' : m < xs.size := List.mem_range.mp hm
      have e1 : (((xs.size : Int) - 1) + (m : Int) * (-1)).toNat = xs.size - 1 - m := by omega
      rw [e1, Array.getElem?_eq_getElem (by omega)]
      simp [hm']
    rw [e, List.getElem?_map, List.getElem?_range hj, List.getElem?_reverse (by simpa using hj)]
    simp only [Option.map_some, Array.length_toList, hj, dif_pos]
    rw [Array.getElem?_toList, Array.getElem?_eq_getElem (by omega)]
  · rw [List.getElem?_eq_none_iff.mpr, List.getElem?_eq_none_iff.mpr]
    · simp; omega
    · refine Nat.le_trans (List.length_filterMap_le _ _) ?_
      simp; omega
theorem getItem_tuple_rev {t sl : Addr} {items : Array Value} {vl vu vs : Value} {Q : Value → Shared → Prop} (ht : IsTup s.heap t items) (hs : s.heap.IsSliceOf sl vl vu vs) (pl : IsPart vl none) (pu : IsPart vu none) (ps : IsPart vs (some (-1)))
    (h : Q (.ref s.heap.objs.size) { s with heap := s.heap.push { cls := .type "tuple", data := .seq items.toList.reverse.toArray } })
    (hsz : items.size ≤ sizeLine) : wpAny (model prog w) A (getItem (.ref t) (.ref sl)) Q E s := by
  have htake : sizeOk (.seq items.toList.reverse.toArray) := by
    show items.toList.reverse.toArray.size ≤ sizeLine
    rw [List.size_toArray, List.length_reverse, Array.length_toList]
    exact hsz
  obtain ⟨os, hos, hcs, hds⟩ := id hs
  have hTs : s.TypeIs (.ref sl) "slice" := ⟨os, hos, hcs⟩
  unfold getItem
  try with_reducible refine wpAny_holding ?_
  first | refine wpAny_bind (wpAny_pure ?_) | skip
  refine wpAny_bind (wpAny_sequenceKey ht.typeIs (by decide) ?_)
  refine wpAny_bind (wpAny_callSpecial?_slot (name := Str.ofString "__getitem__") ht.typeIs PyProof.Rows.slot_tuple_getitem
    (wpAny_call_entry PyProof.Rows.slot_tuple_getitem ht.typeIs entry_tuple_getitem ?_ (args_tuple_getitem _ _)))
  show wpAny _ _ (Builtin.Tuple.tupleItemsOf (.ref t) >>= _) _ _ s
  refine wpAny_bind (tupleItemsOf_ ht ?_)
  refine wpAny_bind (wpAny_typeOf hTs ?_)
  rw [if_pos (by decide)]
  refine wpAny_bind (sliceApplied_rev hs pl pu ps ?_)
  have hno : ¬ ((((items.size : Int) - 1) == 0 && (-1 : Int) == 1 && items.size == items.size) = true) := by
    intro q
    rw [Bool.and_eq_true, Bool.and_eq_true] at q
    exact absurd q.1.2 (by decide)
  show wpAny _ _ (if (((items.size : Int) - 1) == 0 && (-1 : Int) == 1 && items.size == items.size) = true then _ else _) _ _ s
  rw [if_neg hno, pick_rev]
  first
    | exact wpAny_bind (m := Builtin.Tuple.tupleExact _) (wpAny_newObj_type (wpAny_pure ⟨_, rfl, wpAny_pure h⟩) htake)
    | exact wpAny_bind (m := Builtin.Tuple.tupleExact _) (wpAny_newObj_type (wpAny_bind (wpAny_pure (wpAny_pure ⟨_, rfl, wpAny_pure h⟩))) htake)
    | exact wpAny_bind (wpAny_bind (m := Builtin.Tuple.tupleExact _) (wpAny_newObj_type (wpAny_pure (wpAny_pure ⟨_, rfl, wpAny_pure h⟩)) htake))
    | exact wpAny_bind (wpAny_bind (m := Builtin.Tuple.tupleExact _) (wpAny_newObj_type (wpAny_pure ⟨_, rfl, wpAny_pure h⟩) htake))
end

section
variable {X : Cx} {W : WX}
/-- xs[::-1] of a list or a tuple -/
def tRevA (K : PySem.W.Frag) (te : TE) : TE := fun σ H Q => te σ H fun x H1 => ∃ a xs, x = .ref a ∧ ((SqL K H1 a xs ∧ ∀ p, H1 p = none → Q (.ref p) (upd H1 p (.lst xs.reverse))) ∨ (SqT K H1 a xs ∧ ∀ p, H1 p = none → Q (.ref p) (upd H1 p (.tup xs.reverse))))
theorem pe_revA {e : Expr} {te : TE} {k : Nat} {p1 p2 p3 pos : Pos} (he : PE X e te) : PE X (.Subscript e (.Slice none none (some (.UnaryOp .USub (.Constant (.int 1) k p1) p2)) p3) pos) (tRevA X.K te) := by
  refine ⟨fun pins s σ H Q I h => ?_⟩
  refine Subscript_ (thn (he.run pins s σ H _ I h) fun v s1 ⟨x, H1, I1, r1, q1⟩ => ?_)
  obtain ⟨a, xs, ex, hq⟩ := q1
  subst ex
  cases r1
  have hst : PO X (some (.UnaryOp .USub (.Constant (.int 1) k p1) p2)) (tPart (tUn (rU fun i => .int (-i)) (tC (.int 1)))) := po_some (pe_un un_neg pe_int)
  refine wpAny_Slice (thn (po_none.run pins s1 σ H1 (fun o H2 => o = none ∧ H2 = H1) I1 ⟨rfl, rfl⟩) fun vl s2 ⟨l, H2, I2, pl, el, e2⟩ => ?_)
  subst el e2
  refine thn (po_none.run pins s2 σ H2 (fun o H3 => o = none ∧ H3 = H2) I2 ⟨rfl, rfl⟩) fun vu s3 ⟨u, H3, I3, pu, eu, e3⟩ => ?_
  subst eu e3
  refine thn (hst.run pins s3 σ H3 (fun o H4 => o = some (-1) ∧ H4 = H3) I3 ⟨1, rfl, -1, rfl, rfl, rfl⟩) fun vs s4 ⟨o, H4, I4, ps, eo, e4⟩ => ?_
  subst eo e4
  have I5 : Inv X pins σ H4 { s4 with heap := s4.heap.push { cls := .type "slice", data := .fields #[vl, vu, vs] } } := I4.kept (t' := s4.toks) fun b ob q => Heap.get?_push_of_some _ q
  rcases hq with ⟨hx, q⟩ | ⟨hx, q⟩
  · obtain ⟨its, r, ht, hz⟩ := I5.list hx
    have hlen := r.length
    show wpAny (model X.prog X.w) X.A (subscriptTail e (.Slice none none (some (.UnaryOp .USub (.Constant (.int 1) k p1) p2)) p3) (.ref a) (.ref s4.heap.objs.size)) (EP X pins σ Q) X.xe { s4 with heap := s4.heap.push { cls := .type "slice", data := .fields #[vl, vu, vs] } }
    refine tail_any (ops := [.ref a, .ref s4.heap.objs.size]) ht.isList.typeIs (PySem.slot_list_getitem.lookup) ?_ (by with_unfolding_all rfl)
    refine wpAny_getItem_list_slice ht.isList (Heap.IsSliceOf.new _ vl vu vs) pl pu ps (by decide) ?_ (by rw [List.size_toArray]; omega)
    rw [PySem.W.krv_pick]
    refine ⟨.ref _, _, I5.laid (t' := s4.toks) (o := .lst xs.reverse) (fun b ob q => Heap.get?_push_of_some _ q) (Nat.le_refl _) ?_, rfl, q _ (I5.hok.fresh (Nat.le_refl _))⟩
    exact ⟨by rw [List.length_reverse]; exact hz, _, 0, r.reverse, Heap.get?_push_size _ rfl⟩
  · obtain ⟨its, r, ht, hz⟩ := I5.tuple hx
    have hlen := r.length
    show wpAny (model X.prog X.w) X.A (subscriptTail e (.Slice none none (some (.UnaryOp .USub (.Constant (.int 1) k p1) p2)) p3) (.ref a) (.ref s4.heap.objs.size)) (EP X pins σ Q) X.xe { s4 with heap := s4.heap.push { cls := .type "slice", data := .fields #[vl, vu, vs] } }
    refine tail_any (ops := [.ref a, .ref s4.heap.objs.size]) ht.typeIs (PyProof.Rows.slot_tuple_getitem.lookup) ?_ (by with_unfolding_all rfl)
    refine getItem_tuple_rev ht (Heap.IsSliceOf.new _ vl vu vs) pl pu ps ?_ (by rw [List.size_toArray]; omega)
    refine ⟨.ref _, _, I5.laid (t' := s4.toks) (o := .tup xs.reverse) (fun b ob q => Heap.get?_push_of_some _ q) (Nat.le_refl _) ?_, rfl, q _ (I5.hok.fresh (Nat.le_refl _))⟩
    exact ⟨by rw [List.length_reverse]; exact hz, _, r.reverse, IsTup.new _ _⟩
def revB : BM := fun ms R => match ms with
  | [.v (.tup ds)] => R (.v (.tup ds.reverse)) ms
  | [a] => ∃ ds, lsV a = some ds ∧ R (.ml ds.reverse) ms
  | _ => False
theorem de_rev {e : Expr} {fo : FO} {k : Nat} {p1 p2 p3 pos : Pos} (he : DO X W e fo) : DE X W (.Subscript e (.Slice none none (some (.UnaryOp .USub (.Constant (.int 1) k p1) p2)) p3) pos) (f1 revB fo) :=
  ⟨pe_le (pe_revA he.pe) fun σ H Q h => by
    obtain ⟨G, S, R, XR, l, rs, hF, hQ, hX⟩ := tD_f1 h
    refine ⟨G, S, R, XR, l, rs, hF, fun a S' v H' l' r ok rs' => ?_, hX⟩
    obtain ⟨L, ms, R', lm, rs2, hb, hQ'⟩ := hQ a S' v H' l' r ok rs'
    unfold revB at hb
    split at hb
    · obtain ⟨O, f1, n, h1, r1⟩ := RS.one rs2
      obtain ⟨b, vs, e1, s1, r2⟩ := h1.tp rfl
      cases e1
      exact ⟨b, vs, rfl, .inr ⟨s1, fun p hp => hQ' _ _ _ _ hb (RS.newTup ⟨O, n, r2.reverse, r1⟩ hp)⟩⟩
    · obtain ⟨ds, e0, hr⟩ := hb
      obtain ⟨O, f1, n, h1, r1⟩ := RS.one rs2
      obtain ⟨b, vs, e1, s1, r2⟩ := h1.ls e0
      cases e1
      exact ⟨b, vs, rfl, .inl ⟨s1, fun p hp => hQ' _ _ _ _ hr (RS.newLst ⟨O, n, r2.reverse, r1⟩ hp)⟩⟩
    · exact hb.elim⟩

/-! ### items -/
theorem RDs.atI {K : PySem.W.Frag} {H : Hp} {O : List Addr} {vs : List V} {ds : List D} {i : Int} {d : D} (r : RDs K H O vs ds) (e : atI ds i = some d) : ∃ v, L2.atI vs i = some v ∧ RD K H O v d := by
  unfold L2.atI at e ⊢
  rw [r.length]
  cases q : ixN ds.length i with
  | none => rw [q] at e; cases e
  | some j =>
    rw [q] at e
    exact r.get (show ds[j]? = some d from e)
def ixB : BM := fun ms R => match ms with
  | [.v (.str z), .v (.int i)] => ∃ c, z.length ≤ sizeLine ∧ atI z.cps.toList i = some c ∧ R (.v (.str ⟨#[c]⟩)) ms
  | [a, .v (.int i)] => ∃ ds d, sqV a = some ds ∧ atI ds i = some d ∧ R (.v d) ms
  | _ => False
theorem o_ix : IxR X (r2B X.K ixB) := by
  intro value slice pins s σ H x y v u Q I rx ry h hs
  obtain ⟨L, ms, R, l, rs, hb, hQ⟩ := h
  unfold ixB at hb
  split at hb
  · obtain ⟨c, z1, z2, hr⟩ := hb
    obtain ⟨O, f1, f2, n, h1, h2, r⟩ := RS.two rs
    have e1 := h1.str
    have e2 := h2.int
    cases e1
    cases e2
    exact ix_str value slice pins s σ H _ _ v u Q I rx ry ⟨_, _, c, rfl, rfl, z1, z2, hQ _ _ _ H hr (rs.str _)⟩ hs
  · obtain ⟨ds, d, e0, e3, hr⟩ := hb
    obtain ⟨O, f1, f2, n, h1, h2, r⟩ := RS.two rs
    obtain ⟨a, vs, e1, s1, r1⟩ := h1.sq e0
    have e2 := h2.int
    cases e1
    cases e2
    obtain ⟨w, e4, rw'⟩ := r1.atI e3
    have fin := hQ _ _ w H hr ⟨O, n, .cons (fp := []) (.v rw') r⟩
    rcases s1 with s1 | s1
    · exact ix_list value slice pins s σ H _ _ v u Q I rx ry ⟨_, _, _, _, rfl, rfl, s1, e4, fin⟩ hs
    · exact ix_tup value slice pins s σ H _ _ v u Q I rx ry ⟨_, _, _, _, rfl, rfl, s1, e4, fin⟩ hs
  · exact hb.elim

/-! ### slices -/
def cut {α : Type} (xs : List α) (lo hi : Option Int) : List α := (xs.drop (HT.sIx xs.length 0 lo)).take (HT.sIx xs.length xs.length hi - HT.sIx xs.length 0 lo)
theorem RDs.cut {K : PySem.W.Frag} {H : Hp} {O : List Addr} {vs : List V} {ds : List D} (lo hi : Option Int) (r : RDs K H O vs ds) : RDs K H O (cutV vs lo hi) (cut ds lo hi) := by
  unfold cutV DM.cut
  rw [r.length]
  exact (r.drop _).take _
theorem cut_whole {α : Type} {xs : List α} {lo hi : Option Int} (h : HT.sIx xs.length 0 lo = 0 ∧ HT.sIx xs.length xs.length hi = xs.length) : cut xs lo hi = xs := by
  unfold cut
  rw [h.1, h.2, List.drop_zero, Nat.sub_zero, List.take_length]
abbrev FP := List M → (Option Int → List M → Prop) → XM → Prop
def tDP (K : PySem.W.Frag) (W : WX) (F : FP) : TO := fun σ H Q => ∃ (G : List Pr) (S : List M) (R : Option Int → List M → Prop) (XR : XM), σ.length = S.length ∧ RS K H (G ++ σ.zip S) ∧ F S R XR ∧
  (∀ b S' H', σ.length = S'.length → R b S' → RS K H' (G ++ σ.zip S') → Q b H') ∧
  (∀ c fs S' d H', σ.length = S'.length → XR (c, fs) S' → XOk K H' d fs (G ++ σ.zip S') → W c d σ H')
structure DP (X : Cx) (W : WX) (e : Option Expr) (F : FP) : Prop where
  po : PO X e (tDP X.K W F)
def pNo : FP := fun S R _ => R none S
def asI (m : M) (k : Int → Prop) : Prop := match m with
  | .v (.int i) => k i
  | _ => False
def pSome (F : FE) : FP := fun S R XR => F S (fun m S' => asI m fun i => R (some i) S') XR
theorem RS.asI {K : PySem.W.Frag} {H : Hp} {v : V} {m : M} {k : Int → Prop} {L : List Pr} (h : RS K H ((some v, m) :: L)) (z : asI m k) : ∃ b, v = .int b ∧ k b := by
  unfold DM.asI at z
  split at z
  · obtain ⟨O, f1, n, h1, r1⟩ := RS.one h
    have e := h1.int
    cases e
    exact ⟨_, rfl, z⟩
  · exact z.elim
theorem po_le {e : Option Expr} {t t' : TO} (h : PO X e t) (k : ∀ σ H Q, t' σ H Q → t σ H Q) : PO X e t' := ⟨fun pins s σ H Q I q => h.run pins s σ H Q I (k σ H Q q)⟩
theorem dp_none : DP X W none pNo := ⟨po_le po_none fun σ H Q h => by
  obtain ⟨G, S, R, XR, l, rs, hF, hQ, hX⟩ := h
  exact hQ none S H l hF rs⟩
theorem dp_some {e : Expr} {F : FE} (h : DE X W e F) : DP X W (some e) (pSome F) := ⟨po_le (po_some h.pe) fun σ H Q h => by
  obtain ⟨G, S, R, XR, l, rs, hF, hQ, hX⟩ := h
  refine ⟨G, S, _, XR, l, rs, hF, fun a S1 x H1 l1 hb rs1 => ?_, hX⟩
  obtain ⟨i, e, k⟩ := RS.asI rs1 hb
  exact ⟨i, e, hQ _ S1 H1 l1 k rs1.drop⟩⟩
def slB (lo hi : Option Int) : BM := fun ms R => match ms with
  | [.v (.str z)] => z.length ≤ sizeLine ∧ R (.v (.str (cutS z lo hi))) ms
  | [.v (.tup ds)] => R (.v (.tup (cut ds lo hi))) ms
  | [a] => ∃ ds, lsV a = some ds ∧ R (.ml (cut ds lo hi)) ms
  | _ => False
def fSl (fo : FO) (pl ph : FP) : FE := fun S R XR => fo S (fun a S1 => pl S1 (fun lo S2 => ph S2 (fun hi S3 => callB (slB lo hi) [a] S3 R) XR) XR) XR
def rSlM (K : PySem.W.Frag) : V → Option Int → Option Int → Hp → VK → Prop := fun x lo hi H Q => rB K (slB lo hi) [x] H Q
theorem sl_M : SlR X (rSlM X.K) := by
  intro pins s σ H x v vl vu lo hi sl Q I rx hs pl pu h
  obtain ⟨L, ms, R, l, rs, hb, hQ⟩ := h
  unfold slB at hb
  split at hb
  · obtain ⟨O, f1, n, h1, r⟩ := RS.one rs
    have e1 := h1.str
    cases e1
    exact sl_str pins s σ H _ v vl vu lo hi sl Q I rx hs pl pu ⟨_, rfl, hb.1, hQ _ _ _ H hb.2 (rs.str _)⟩
  · obtain ⟨O, f1, n, h1, r⟩ := RS.one rs
    obtain ⟨a, vs, e1, s1, r1⟩ := h1.tp rfl
    cases e1
    refine sl_tupA pins s σ H _ v vl vu lo hi sl Q I rx hs pl pu ⟨a, vs, rfl, s1, fun e => ?_, fun e p hp => ?_⟩
    · rw [r1.length] at e
      rw [cut_whole e] at hb
      exact hQ _ _ _ H hb (RS.dup rs)
    · exact hQ _ _ _ _ hb (RS.newTup ⟨O, n, r1.cut lo hi, r⟩ hp)
  · obtain ⟨ds, e0, hr⟩ := hb
    obtain ⟨O, f1, n, h1, r⟩ := RS.one rs
    obtain ⟨a, vs, e1, s1, r1⟩ := h1.ls e0
    cases e1
    exact sl_list pins s σ H _ v vl vu lo hi sl Q I rx hs pl pu ⟨a, vs, rfl, s1, fun p hp => hQ _ _ _ _ hr (RS.newLst ⟨O, n, r1.cut lo hi, r⟩ hp)⟩
  · exact hb.elim
theorem de_sl {e : Expr} {lo hi : Option Expr} {fo : FO} {pl ph : FP} {p2 pos : Pos} (he : DO X W e fo) (hl : DP X W lo pl) (hh : DP X W hi ph) : DE X W (.Subscript e (.Slice lo hi none p2) pos) (fSl fo pl ph) :=
  ⟨pe_le (pe_slice sl_M he.pe hl.po hh.po) fun σ H Q h => by
    obtain ⟨G, S, R, XR, l, rs, hF, hQ, hX⟩ := h
    refine ⟨G, S, _, XR, l, rs, hF, fun a S1 x H1 l1 hb ok1 rs1 => ?_, hX⟩
    refine ⟨(some x, arM a) :: G, S1, _, XR, l1, rs1, hb, fun lo S2 H2 l2 hb2 rs2 => ?_, fun c fs S' d H' l' hx xo => hX c fs S' d H' l' hx xo.drop⟩
    refine ⟨(some x, arM a) :: G, S2, _, XR, l2, rs2, hb2, fun hi S3 H3 l3 hb3 rs3 => ?_, fun c fs S' d H' l' hx xo => hX c fs S' d H' l' hx xo.drop⟩
    exact rB_of (as := [a]) (vs := [x]) l3 ⟨ok1, trivial⟩ rs3 hb3 hQ⟩

/-! ### built-in calls -/
def lenB : BM := fun ms R => match ms with
  | [.v (.str z)] => z.length ≤ sizeLine ∧ R (.v (.int z.length)) ms
  | [.mk ks ds] => R (.v (.int ks.length)) ms
  | [.v (.dK ks ds)] => R (.v (.int ks.length)) ms
  | [a] => ∃ ds, sqV a = some ds ∧ R (.v (.int ds.length)) ms
  | _ => False
theorem c_len : CallR X (.builtin "len") (rB X.K lenB) := by
  intro pins s σ H xs us Q I rx h
  obtain ⟨L, ms, R, l, rs, hb, hQ⟩ := h
  unfold lenB at hb
  split at hb
  · obtain ⟨x, rfl⟩ := one_of l
    obtain ⟨O, f1, n, h1, r⟩ := RS.one rs
    have e1 := h1.str
    cases e1
    exact call_len_str pins s σ H _ us Q I rx ⟨_, rfl, hb.1, hQ _ _ _ H hb.2 (rs.int _)⟩
  · obtain ⟨x, rfl⟩ := one_of l
    obtain ⟨O, f1, n, h1, r⟩ := RS.one rs
    cases h1 with
    | mk e e2 r2 =>
      rename_i a kvs
      refine call_lenD pins s σ H _ us Q I rx ⟨a, kvs, rfl, e, ?_⟩
      rw [← e2, List.length_map] at hb
      have q := hQ _ _ _ H (by rw [← e2]; exact hb) (rs.int _)
      exact q
  · obtain ⟨x, rfl⟩ := one_of l
    obtain ⟨O, f1, n, h1, r⟩ := RS.one rs
    cases h1 with
    | v h1 =>
      cases h1 with
      | dK nn e e2 r2 =>
        rename_i a kvs
        refine call_lenD pins s σ H _ us Q I rx ⟨a, kvs, rfl, e, ?_⟩
        rw [← e2, List.length_map] at hb
        exact hQ _ _ _ H (by rw [← e2]; exact hb) (rs.int _)
  · obtain ⟨ds, e0, hr⟩ := hb
    obtain ⟨x, rfl⟩ := one_of l
    obtain ⟨O, f1, n, h1, r⟩ := RS.one rs
    obtain ⟨a, vs, e1, s1, r1⟩ := h1.sq e0
    cases e1
    refine call_len_seq pins s σ H _ us Q I rx ⟨a, vs, rfl, s1, ?_⟩
    rw [r1.length]
    exact hQ _ _ _ H hr (rs.int _)
  · exact hb.elim
/-- tuple(x) of a list or a tuple -/
def tupleB : BM := fun ms R => match ms with
  | [.v (.tup ds)] => R (.v (.tup ds)) ms
  | [a] => ∃ ds, lsV a = some ds ∧ R (.v (.tup ds)) ms
  | _ => False
theorem c_tuple : CallR X (.type "tuple") (rB X.K tupleB) := by
  intro pins s σ H xs us Q I rx h
  obtain ⟨L, ms, R, l, rs, hb, hQ⟩ := h
  unfold tupleB at hb
  split at hb
  · obtain ⟨x, rfl⟩ := one_of l
    obtain ⟨O, f1, n, h1, r⟩ := RS.one rs
    obtain ⟨a, vs, e1, s1, r1⟩ := h1.tp rfl
    cases e1
    exact call_tuple_of pins s σ H _ us Q I rx ⟨a, vs, rfl, .inr ⟨s1, hQ _ _ _ H hb (RS.dup rs)⟩⟩
  · obtain ⟨ds, e0, hr⟩ := hb
    obtain ⟨x, rfl⟩ := one_of l
    obtain ⟨O, f1, n, h1, r⟩ := RS.one rs
    obtain ⟨a, vs, e1, s1, r1⟩ := h1.ls e0
    cases e1
    exact call_tuple_of pins s σ H _ us Q I rx ⟨a, vs, rfl, .inl ⟨s1, fun p hp => hQ _ _ _ _ hr (RS.newTup ⟨O, n, r1, r⟩ hp)⟩⟩
  · exact hb.elim
/-- list(x) of a list or a tuple -/
def listB : BM := fun ms R => match ms with
  | [a] => ∃ ds, sqV a = some ds ∧ R (.ml ds) ms
  | _ => False
theorem c_list : CallR X (.type "list") (rB X.K listB) := by
  intro pins s σ H xs us Q I rx h
  obtain ⟨L, ms, R, l, rs, hb, hQ⟩ := h
  unfold listB at hb
  split at hb
  · obtain ⟨ds, e0, hr⟩ := hb
    obtain ⟨x, rfl⟩ := one_of l
    obtain ⟨O, f1, n, h1, r⟩ := RS.one rs
    obtain ⟨a, vs, e1, s1, r1⟩ := h1.sq e0
    cases e1
    exact call_list_of pins s σ H _ us Q I rx ⟨a, vs, rfl, s1, fun p hp => hQ _ _ _ _ hr (RS.newLst ⟨O, n, r1, r⟩ hp)⟩
  · exact hb.elim
def intB : BM := fun ms R => match ms with
  | [.v (.int i)] => R (.v (.int i)) ms
  | [.v (.bl b)] => R (.v (.int (if b then 1 else 0))) ms
  | _ => False
theorem c_int : CallR X (.type "int") (rB X.K intB) := by
  intro pins s σ H xs us Q I rx h
  obtain ⟨L, ms, R, l, rs, hb, hQ⟩ := h
  unfold intB at hb
  split at hb
  · obtain ⟨x, rfl⟩ := one_of l
    obtain ⟨O, f1, n, h1, r⟩ := RS.one rs
    have e1 := h1.int
    cases e1
    exact call_int1 pins s σ H _ us Q I rx (.inl ⟨_, rfl, hQ _ _ _ H hb (rs.int _)⟩)
  · obtain ⟨x, rfl⟩ := one_of l
    obtain ⟨O, f1, n, h1, r⟩ := RS.one rs
    have e1 := h1.bl
    cases e1
    exact call_int1 pins s σ H _ us Q I rx (.inr ⟨_, rfl, hQ _ _ _ H hb (rs.int _)⟩)
  · exact hb.elim
def absB : BM := fun ms R => match ms with
  | [.v (.int i)] => R (.v (.int (if i < 0 then -i else i))) ms
  | _ => False
theorem c_abs : CallR X (.builtin "abs") (rB X.K absB) := by
  intro pins s σ H xs us Q I rx h
  obtain ⟨L, ms, R, l, rs, hb, hQ⟩ := h
  unfold absB at hb
  split at hb
  · obtain ⟨x, rfl⟩ := one_of l
    obtain ⟨O, f1, n, h1, r⟩ := RS.one rs
    have e1 := h1.int
    cases e1
    exact call_abs pins s σ H _ us Q I rx ⟨_, rfl, hQ _ _ _ H hb (rs.int _)⟩
  · exact hb.elim
def maxB : BM := fun ms R => match ms with
  | [.v (.int i), .v (.int j)] => R (.v (.int (if j > i then j else i))) ms
  | _ => False
def minB : BM := fun ms R => match ms with
  | [.v (.int i), .v (.int j)] => R (.v (.int (if j < i then j else i))) ms
  | _ => False
theorem c_max (hc : X.calm = true) : CallR X (.builtin "max") (rB X.K maxB) := by
  intro pins s σ H xs us Q I rx h
  obtain ⟨L, ms, R, l, rs, hb, hQ⟩ := h
  unfold maxB at hb
  split at hb
  · obtain ⟨x, y, rfl⟩ := two_of l
    obtain ⟨O, f1, f2, n, h1, h2, r⟩ := RS.two rs
    have e1 := h1.int
    have e2 := h2.int
    cases e1
    cases e2
    exact call_max2 hc pins s σ H _ us Q I rx ⟨_, _, rfl, hQ _ _ _ H hb (rs.int _)⟩
  · exact hb.elim
theorem c_min (hc : X.calm = true) : CallR X (.builtin "min") (rB X.K minB) := by
  intro pins s σ H xs us Q I rx h
  obtain ⟨L, ms, R, l, rs, hb, hQ⟩ := h
  unfold minB at hb
  split at hb
  · obtain ⟨x, y, rfl⟩ := two_of l
    obtain ⟨O, f1, f2, n, h1, h2, r⟩ := RS.two rs
    have e1 := h1.int
    have e2 := h2.int
    cases e1
    cases e2
    exact call_min2 hc pins s σ H _ us Q I rx ⟨_, _, rfl, hQ _ _ _ H hb (rs.int _)⟩
  · exact hb.elim
/-- isinstance(x, T) against a built-in class -/
def tyM : M → Option String
  | .v .non => some "NoneType"
  | .v (.bl _) => some "bool"
  | .v (.int _) => some "int"
  | .v (.str _) => some "str"
  | .v (.tup _) => some "tuple"
  | .v (.lst _) => some "list"
  | .v (.dK _ _) => some "dict"
  | .v (.dT _ _) => some "dict"
  | .ml _ => some "list"
  | .mk _ _ => some "dict"
  | .mt _ _ => some "dict"
  | _ => none
/-- the answer: T of the built-in classes, of a value of the built-in class U -/
def isTy (U T : String) : Bool := U == T || (U == "bool" && T == "int")
def isiB : BM := fun ms R => match ms with
  | [a, .v (.ty T)] => ∃ U, tyM a = some U ∧ kitB U T = some (isTy U T) ∧ R (.v (.bl (isTy U T))) ms
  | _ => False
theorem tyX_tup {K : PySem.W.Frag} {H : Hp} {a : Addr} {vs : List V} (h : SqT K H a vs) : TyX K H (.ref a) (.type "tuple") := by
  rcases h with (h | ⟨o, h⟩) | ⟨o, its, n, e, c, _⟩
  · exact .base (.tup h)
  · exact .fTuple h
  · exact .kTuple e c
theorem tyX_lst {K : PySem.W.Frag} {H : Hp} {a : Addr} {vs : List V} (h : SqL K H a vs) : TyX K H (.ref a) (.type "list") := by
  rcases h with (h | ⟨o, h⟩) | ⟨o, its, n, e, c, _⟩
  · exact .base (.lst h)
  · exact .base (.frz h)
  · exact .kList e c
theorem tyX_of {K : PySem.W.Frag} {H : Hp} {O : List Addr} {v : V} {m : M} {fp : List Addr} {U : String} (h : RM K H O (some v) m fp) (e : tyM m = some U) : TyX K H v (.type U) := by
  cases h with
  | v h =>
    cases h with
    | non => cases e; exact .base .non
    | bl b => cases e; exact .base (.bl b)
    | int b => cases e; exact .base (.int b)
    | str b => cases e; exact .base (.str b)
    | tup h r => cases e; exact tyX_tup h.sq
    | lst h r => cases e; exact tyX_lst h.sq
    | dK n h e' r => cases e; exact .base (.dK h)
    | dT n h e' r => cases e; exact .base (.dT h)
    | _ => cases e
  | ml h r => cases e; exact .base (.lst h)
  | mk h e' r => cases e; exact .base (.dK h)
  | mt h e' r => cases e; exact .base (.dT h)
  | _ => cases e
theorem c_isi : CallR X (.builtin "isinstance") (rB X.K isiB) := by
  intro pins s σ H xs us Q I rx h
  obtain ⟨L, ms, R, l, rs, hb, hQ⟩ := h
  unfold isiB at hb
  split at hb
  · obtain ⟨U, e, k, hr⟩ := hb
    obtain ⟨x, y, rfl⟩ := two_of l
    obtain ⟨O, f1, f2, n, h1, h2, r⟩ := RS.two rs
    have e2 := h2.ty
    cases e2
    exact call_isi pins s σ H _ us Q I rx ⟨x, _, _, _, _, rfl, .ty _, tyX_of h1 e, kit_ty k, hQ _ _ _ H hr (rs.bl _)⟩
  · exact hb.elim
/-- all(xs), any(xs) over a made list of truths -/
def blsV : List D → Option (List Bool)
  | [] => some []
  | .bl b :: ds => (blsV ds).map (b :: ·)
  | _ => none
def allB : BM := fun ms R => match ms with
  | [a] => ∃ ds bs, lsV a = some ds ∧ blsV ds = some bs ∧ R (.v (.bl (bs.all id))) ms
  | _ => False
def anyB : BM := fun ms R => match ms with
  | [a] => ∃ ds bs, lsV a = some ds ∧ blsV ds = some bs ∧ R (.v (.bl (bs.any id))) ms
  | _ => False
theorem bls_of {K : PySem.W.Frag} {H : Hp} {O : List Addr} : ∀ {vs : List V} {ds : List D} {bs : List Bool}, RDs K H O vs ds → blsV ds = some bs → vs = bs.map V.bl
  | _, _, _, .nil, e => by cases e; rfl
  | _, _, _, .cons (d := d) (ds := ds) h r, e => by
    cases h with
    | bl b =>
      rw [blsV] at e
      cases q : blsV ds with
      | none => rw [q] at e; cases e
      | some bs => rw [q] at e; cases e; rw [bls_of r q]; rfl
    | _ => cases e
theorem c_all (hc : X.calm = true) : CallR X (.builtin "all") (rB X.K allB) := by
  intro pins s σ H xs us Q I rx h
  obtain ⟨L, ms, R, l, rs, hb, hQ⟩ := h
  unfold allB at hb
  split at hb
  · obtain ⟨ds, bs, e0, e1, hr⟩ := hb
    obtain ⟨x, rfl⟩ := one_of l
    obtain ⟨O, f1, n, h1, r⟩ := RS.one rs
    obtain ⟨a, vs, e2, s1, r1⟩ := h1.ls e0
    cases e2
    have e3 := bls_of r1 e1
    subst e3
    exact cr_all hc pins s σ H _ us Q I rx ⟨a, bs, rfl, s1, hQ _ _ _ H hr (rs.bl _)⟩
  · exact hb.elim
theorem c_any (hc : X.calm = true) : CallR X (.builtin "any") (rB X.K anyB) := by
  intro pins s σ H xs us Q I rx h
  obtain ⟨L, ms, R, l, rs, hb, hQ⟩ := h
  unfold anyB at hb
  split at hb
  · obtain ⟨ds, bs, e0, e1, hr⟩ := hb
    obtain ⟨x, rfl⟩ := one_of l
    obtain ⟨O, f1, n, h1, r⟩ := RS.one rs
    obtain ⟨a, vs, e2, s1, r1⟩ := h1.ls e0
    cases e2
    have e3 := bls_of r1 e1
    subst e3
    exact cr_any hc pins s σ H _ us Q I rx ⟨a, bs, rfl, s1, hQ _ _ _ H hr (rs.bl _)⟩
  · exact hb.elim
end
end DM

/-! Tests, displays, statements, loops. -/
namespace DM
open PySem PySem.Spec PyProof.Rows
open L2
section
variable {X : Cx} {W : WX} {mask : List Bool}

/-! ### tests -/
/-- an expression that gives True or False -/
theorem dt_of {e : Expr} {F : FE} (h : DE X W e F) (he : ∀ whole, isTrue e X.env whole = (do let v ← whole; standAt e.pos; holding [v] (truthy v)) := by intro _; rfl) : DT X W e (tOf F) :=
  ⟨pt_le (pt_val h.pe he) fun σ H Q h => by
    obtain ⟨G, S, R, XR, l, rs, hF, hQ, hX⟩ := h
    refine ⟨G, S, _, XR, l, rs, hF, fun a S1 x H1 l1 hb rs1 => ?_, hX⟩
    obtain ⟨b, e, k⟩ := RS.asB rs1 hb
    exact ⟨b, e, hQ b S1 H1 l1 k rs1.drop⟩⟩
/-- any expression, by its truth -/
theorem dt_tru {e : Expr} {F : FE} (h : DE X W e F) (he : ∀ whole, isTrue e X.env whole = (do let v ← whole; standAt e.pos; holding [v] (truthy v)) := by intro _; rfl) : DT X W e (tTru F) :=
  ⟨pt_le (pt_truth h.pe he) fun σ H Q h => by
    obtain ⟨G, S, R, XR, l, rs, hF, hQ, hX⟩ := h
    refine ⟨G, S, _, XR, l, rs, hF, fun a S1 x H1 l1 hb rs1 => ?_, hX⟩
    obtain ⟨d, z1, r1⟩ := RS.asD rs1 hb
    obtain ⟨O, f1, n, h1, r⟩ := RS.one r1
    cases h1 with
    | v h1 =>
      obtain ⟨b, e, k⟩ := tru_of h1 z1
      exact ⟨b, e, hQ b S1 H1 l1 k rs1.drop⟩⟩
def tNt (F : FT) : FT := fun S R XR => F S (fun b S' => R (!b) S') XR
theorem dt_not {e : Expr} {F : FT} {pos : Pos} (h : DT X W e F) : DT X W (.UnaryOp .Not e pos) (tNt F) := ⟨pt_le (pt_not h.pt) fun σ H Q h => by
  obtain ⟨G, S, R, XR, l, rs, hF, hQ, hX⟩ := h
  exact ⟨G, S, _, XR, l, rs, hF, fun b S1 H1 l1 hb rs1 => hQ _ S1 H1 l1 hb rs1, hX⟩⟩
def tA2 (F F' : FT) : FT := fun S R XR => F S (fun b S' => iteP b (F' S' R XR) (R false S')) XR
def tO2 (F F' : FT) : FT := fun S R XR => F S (fun b S' => iteP b (R true S') (F' S' R XR)) XR
theorem dw_and1 {e : Expr} {F : FT} {pos : Pos} (h : DT X W e F) : DW X W (.BoolOp .And [e] pos) F := ⟨pw_and1 h.pt⟩
theorem dw_or1 {e : Expr} {F : FT} {pos : Pos} (h : DT X W e F) : DW X W (.BoolOp .Or [e] pos) F := ⟨pw_or1 h.pt⟩
theorem dw_and {a b : Expr} {rest : List Expr} {F F' : FT} {pos : Pos} (h : DT X W a F) (h' : DW X W (.BoolOp .And (b :: rest) pos) F') : DW X W (.BoolOp .And (a :: b :: rest) pos) (tA2 F F') :=
  ⟨pw_le (pw_and h.pt h'.pw) fun σ H Q h => by
    obtain ⟨G, S, R, XR, l, rs, hF, hQ, hX⟩ := h
    refine ⟨G, S, _, XR, l, rs, hF, fun c S1 H1 l1 hb rs1 => ?_, hX⟩
    cases c with
    | true =>
      rw [iteP_t] at hb; rw [if_pos rfl]
      exact ⟨G, S1, R, XR, l1, rs1, hb, hQ, hX⟩
    | false =>
      rw [iteP_f] at hb; rw [if_neg (by decide)]
      exact hQ _ S1 H1 l1 hb rs1⟩
theorem dw_or {a b : Expr} {rest : List Expr} {F F' : FT} {pos : Pos} (h : DT X W a F) (h' : DW X W (.BoolOp .Or (b :: rest) pos) F') : DW X W (.BoolOp .Or (a :: b :: rest) pos) (tO2 F F') :=
  ⟨pw_le (pw_or h.pt h'.pw) fun σ H Q h => by
    obtain ⟨G, S, R, XR, l, rs, hF, hQ, hX⟩ := h
    refine ⟨G, S, _, XR, l, rs, hF, fun c S1 H1 l1 hb rs1 => ?_, hX⟩
    cases c with
    | true =>
      rw [iteP_t] at hb; rw [if_pos rfl]
      exact hQ _ S1 H1 l1 hb rs1
    | false =>
      rw [iteP_f] at hb; rw [if_neg (by decide)]
      exact ⟨G, S1, R, XR, l1, rs1, hb, hQ, hX⟩⟩
theorem dt_w {e : Expr} {F : FT} (h : DW X W e F) : DT X W e F := ⟨h.pw.pt⟩

/-! ### truth values as values; the conditional expression -/
def vNt (F : FE) : FE := fun S R XR => F S (fun m S' => asB m fun b => R (.v (.bl (!b))) S') XR
theorem de_not {e : Expr} {F : FE} {pos : Pos} (h : DE X W e F) : DE X W (.UnaryOp .Not e pos) (vNt F) := ⟨pe_le (pe_not h.pe) fun σ H Q h => by
  obtain ⟨G, S, R, XR, l, rs, hF, hQ, hX⟩ := h
  refine ⟨G, S, _, XR, l, rs, hF, fun a S1 x H1 l1 hb rs1 => ?_, hX⟩
  obtain ⟨b, e, k⟩ := RS.asB rs1 hb
  exact ⟨b, e, hQ _ S1 _ H1 l1 k (rs1.drop.bl _)⟩⟩
def vA2 (F F' : FE) : FE := fun S R XR => F S (fun m S' => asB m fun b => iteP b (F' S' R XR) (R (.v (.bl false)) S')) XR
def vO2 (F F' : FE) : FE := fun S R XR => F S (fun m S' => asB m fun b => iteP b (R (.v (.bl true)) S') (F' S' R XR)) XR
theorem de_one {op} {e : Expr} {F : FE} {pos : Pos} (h : DE X W e F) : DE X W (.BoolOp op [e] pos) F := ⟨pe_one h.pe⟩
theorem de_and {a b : Expr} {rest : List Expr} {F F' : FE} {pos : Pos} (h : DE X W a F) (h' : DE X W (.BoolOp .And (b :: rest) pos) F') : DE X W (.BoolOp .And (a :: b :: rest) pos) (vA2 F F') :=
  ⟨pe_le (pe_and h.pe h'.pe) fun σ H Q h => by
    obtain ⟨G, S, R, XR, l, rs, hF, hQ, hX⟩ := h
    refine ⟨G, S, _, XR, l, rs, hF, fun a S1 x H1 l1 hb rs1 => ?_, hX⟩
    obtain ⟨c, e, k⟩ := RS.asB rs1 hb
    refine ⟨c, e, ?_⟩
    cases c with
    | true =>
      rw [iteP_t] at k; rw [if_pos rfl]
      exact ⟨G, S1, R, XR, l1, rs1.drop, k, hQ, hX⟩
    | false =>
      rw [iteP_f] at k; rw [if_neg (by decide)]
      exact hQ _ S1 _ H1 l1 k (rs1.drop.bl _)⟩
theorem de_or {a b : Expr} {rest : List Expr} {F F' : FE} {pos : Pos} (h : DE X W a F) (h' : DE X W (.BoolOp .Or (b :: rest) pos) F') : DE X W (.BoolOp .Or (a :: b :: rest) pos) (vO2 F F') :=
  ⟨pe_le (pe_or h.pe h'.pe) fun σ H Q h => by
    obtain ⟨G, S, R, XR, l, rs, hF, hQ, hX⟩ := h
    refine ⟨G, S, _, XR, l, rs, hF, fun a S1 x H1 l1 hb rs1 => ?_, hX⟩
    obtain ⟨c, e, k⟩ := RS.asB rs1 hb
    refine ⟨c, e, ?_⟩
    cases c with
    | true =>
      rw [iteP_t] at k; rw [if_pos rfl]
      exact hQ _ S1 _ H1 l1 k (rs1.drop.bl _)
    | false =>
      rw [iteP_f] at k; rw [if_neg (by decide)]
      exact ⟨G, S1, R, XR, l1, rs1.drop, k, hQ, hX⟩⟩
def fIf (c : FT) (F F' : FE) : FE := fun S R XR => c S (fun b S' => iteP b (F S' R XR) (F' S' R XR)) XR
theorem de_if {c a b : Expr} {fc : FT} {F F' : FE} {pos : Pos} (hc : DT X W c fc) (ha : DE X W a F) (hb : DE X W b F') : DE X W (.IfExp c a b pos) (fIf fc F F') :=
  ⟨pe_le (pe_ifExp hc.pt ha.pe hb.pe) fun σ H Q h => by
    obtain ⟨G, S, R, XR, l, rs, hF, hQ, hX⟩ := h
    refine ⟨G, S, _, XR, l, rs, hF, fun c S1 H1 l1 hb rs1 => ?_, hX⟩
    cases c with
    | true =>
      rw [iteP_t] at hb; rw [if_pos rfl]
      exact ⟨G, S1, R, XR, l1, rs1, hb, hQ, hX⟩
    | false =>
      rw [iteP_f] at hb; rw [if_neg (by decide)]
      exact ⟨G, S1, R, XR, l1, rs1, hb, hQ, hX⟩⟩
/-- a < b < c -/
def fCh (g g' : BM) (fa fb fc : FE) : FE := fun S R XR => fa S (fun a S1 => fb S1 (fun b S2 => g [a, b] fun r ms' => asB r fun k => ∃ a' b', ms' = [a', b'] ∧ iteP k (fc S2 (fun c S3 => g' [b', c] fun r' _ => R r' S3) XR) (R (.v (.bl false)) S2)) XR) XR
theorem de_ch {op op' : CmpOp} {g g' : BM} {a b c : Expr} {fa fb fc : FE} {pos : Pos} (ho : OpR X (compareOp op) (r2B X.K g)) (ho' : OpR X (compareOp op') (r2B X.K g')) (ha : DE X W a fa) (hb : DE X W b fb) (hc : DE X W c fc) (hm : lastMarks [op, op'] [b, c] = false := by rfl) : DE X W (.Compare a [op, op'] [b, c] pos) (fCh g g' fa fb fc) :=
  ⟨pe_le (pe_chain ho ho' ha.pe hb.pe hc.pe hm) fun σ H Q h => by
    obtain ⟨G, S, R, XR, l, rs, hF, hQ, hX⟩ := h
    refine ⟨G, S, _, XR, l, rs, hF, fun a S1 x H1 l1 h1 rs1 => ?_, hX⟩
    refine ⟨(some x, a) :: G, S1, _, XR, l1, rs1, h1, fun b S2 y H2 l2 h2 rs2 => ?_, fun c fs S' d H' l' hx xo => hX c fs S' d H' l' hx xo.drop⟩
    refine ⟨G ++ σ.zip S2, [a, b], _, rfl, rs2.swap, h2, fun r ms' z H3 hr rs3 => ?_⟩
    obtain ⟨k, e, a', b', e2, hk⟩ := RS.asB rs3 hr
    subst e2
    refine ⟨k, e, ?_⟩
    have rs4 : RS X.K H3 ((some x, a') :: (some y, b') :: (G ++ σ.zip S2)) := rs3.drop
    cases k with
    | true =>
      rw [iteP_t] at hk; rw [if_pos rfl]
      refine ⟨(some y, b') :: G, S2, _, XR, l2, rs4.drop, hk, fun c S3 w H4 l3 h3 rs5 => ?_, fun c fs S' d H' l' hx xo => hX c fs S' d H' l' hx xo.drop⟩
      exact ⟨G ++ σ.zip S3, [b', c], _, rfl, rs5.swap, h3, fun r' ms' z' H5 hr' rs6 => hQ r' S3 z' H5 l3 hr' (RS.perm (List.Perm.refl _) (by
        have q : RS X.K H5 (((some z', r') :: ((List.map some [y, w]).zip ms')) ++ (G ++ σ.zip S3)) := rs6
        have q2 := RS.perm (List.perm_append_comm.append_right (G ++ σ.zip S3) : (([(some z', r')] : List Pr) ++ ((List.map some [y, w]).zip ms') ++ (G ++ σ.zip S3)).Perm _) (by simpa using q)
        rw [List.append_assoc] at q2
        exact RS.dropL q2))⟩
    | false =>
      rw [iteP_f] at hk; rw [if_neg (by decide)]
      exact hQ _ S2 _ H3 l2 hk (rs4.drop.drop.bl _)⟩
theorem dt_ch {op op' : CmpOp} {g g' : BM} {a b c : Expr} {fa fb fc : FE} {pos : Pos} (ho : OpR X (compareOp op) (r2B X.K g)) (ho' : OpR X (compareOp op') (r2B X.K g')) (ha : DE X W a fa) (hb : DE X W b fb) (hc : DE X W c fc) (hm : lastMarks [op, op'] [b, c] = false := by rfl) : DT X W (.Compare a [op, op'] [b, c] pos) (tOf (fCh g g' fa fb fc)) :=
  ⟨pt_le (pt_chain ho ho' ha.pe hb.pe hc.pe hm) fun σ H Q h => by
    obtain ⟨G, S, R, XR, l, rs, hF, hQ, hX⟩ := h
    refine ⟨G, S, _, XR, l, rs, hF, fun a S1 x H1 l1 h1 rs1 => ?_, hX⟩
    refine ⟨(some x, a) :: G, S1, _, XR, l1, rs1, h1, fun b S2 y H2 l2 h2 rs2 => ?_, fun c fs S' d H' l' hx xo => hX c fs S' d H' l' hx xo.drop⟩
    refine ⟨G ++ σ.zip S2, [a, b], _, rfl, rs2.swap, h2, fun r ms' z H3 hr rs3 => ?_⟩
    obtain ⟨k, e, a', b', e2, hk⟩ := RS.asB rs3 hr
    subst e2
    refine ⟨k, e, ?_⟩
    have rs4 : RS X.K H3 ((some x, a') :: (some y, b') :: (G ++ σ.zip S2)) := rs3.drop
    cases k with
    | true =>
      rw [iteP_t] at hk; rw [if_pos rfl]
      refine ⟨(some y, b') :: G, S2, _, XR, l2, rs4.drop, hk, fun c S3 w H4 l3 h3 rs5 => ?_, fun c fs S' d H' l' hx xo => hX c fs S' d H' l' hx xo.drop⟩
      refine ⟨G ++ σ.zip S3, [b', c], _, rfl, rs5.swap, h3, fun r' ms' z' H5 hr' rs6 => ?_⟩
      obtain ⟨k', e', hk'⟩ := RS.asB rs6 hr'
      exact ⟨k', e', hQ k' S3 H5 l3 hk' (RS.dropL rs6.drop)⟩
    | false =>
      rw [iteP_f] at hk; rw [if_neg (by decide)]
      exact ⟨false, rfl, hQ _ S2 H3 l2 hk rs4.drop.drop⟩⟩

/-! ### displays -/
abbrev FA' := FA
def faNil : FA := fun S R _ => R [] S
def faCons (F : FE) (Fr : FA) : FA := fun S R XR => F S (fun m S1 => Fr S1 (fun ms S2 => R (m :: ms) S2) XR) XR
theorem da_nil : DA X W [] faNil := ⟨pa_le pa_nil fun σ H Q h => by
  obtain ⟨G, S, R, XR, l, rs, hF, hQ, hX⟩ := h
  exact hQ [] S [] H l rfl hF rs⟩
theorem da_cons {e : Expr} {es : List Expr} {F : FE} {Fr : FA} (ha : DE X W e F) (hr : DA X W es Fr) (hs : starEach (e :: es) X.env = (false, eval e X.env) :: starEach es X.env := by rfl) : DA X W (e :: es) (faCons F Fr) :=
  ⟨pa_le (pa_cons ha.pe hr.pa hs) fun σ H Q h => by
    obtain ⟨G, S, R, XR, l, rs, hF, hQ, hX⟩ := h
    refine ⟨G, S, _, XR, l, rs, hF, fun a S1 v H1 l1 h1 rs1 => ?_, hX⟩
    refine ⟨(some v, a) :: G, S1, _, XR, l1, rs1, h1, fun as S2 vs H2 l2 lv h2 rs2 => ?_, fun c fs S' d H' l' hx xo => hX c fs S' d H' l' hx xo.drop⟩
    refine hQ (a :: as) S2 (v :: vs) H2 l2 (congrArg (· + 1) lv) h2 ?_
    exact RS.perm (perm_mid _ _ _) rs2⟩
def fTup (F : FA) : FE := fun S R XR => F S (fun ms S' => chk (Nat.ble ms.length sizeLine && fzoks ms) (R (.v (.tup (fzs ms))) S')) XR
def fLst (F : FA) : FE := fun S R XR => F S (fun ms S' => chk (Nat.ble ms.length sizeLine && fzoks ms) (R (.ml (fzs ms)) S')) XR
theorem de_tup {es : List Expr} {x1} {F : FA} {pos : Pos} (h : DA X W es F) : DE X W (.Tuple es x1 pos) (fTup F) := ⟨pe_le (pe_tup h.pa) fun σ H Q h => by
  obtain ⟨G, S, R, XR, l, rs, hF, hQ, hX⟩ := h
  exact ⟨G, S, _, XR, l, rs, hF, fun ms S1 vs H1 l1 lv h1 rs1 => by
    have h1 := h1.ok
    have h2 := Bool.and_eq_true_iff.mp h1.1
    exact ⟨by rw [lv]; exact Nat.le_of_ble_eq_true h2.1, fun p hp => hQ _ S1 _ _ l1 h1.2 (RS.newTup (rs1.frozen lv h2.2) hp)⟩, hX⟩⟩
theorem de_lst {es : List Expr} {F : FA} {pos : Pos} (h : DA X W es F) : DE X W (.List es pos) (fLst F) := ⟨pe_le (pe_lst h.pa) fun σ H Q h => by
  obtain ⟨G, S, R, XR, l, rs, hF, hQ, hX⟩ := h
  exact ⟨G, S, _, XR, l, rs, hF, fun ms S1 vs H1 l1 lv h1 rs1 => by
    have h1 := h1.ok
    have h2 := Bool.and_eq_true_iff.mp h1.1
    exact ⟨by rw [lv]; exact Nat.le_of_ble_eq_true h2.1, fun p hp => hQ _ S1 _ _ l1 h1.2 (RS.newLst (rs1.frozen lv h2.2) hp)⟩, hX⟩⟩

/-! ### statements -/
def sNx : FS := fun E S => E.nx S
def sSeq (f g : FS) : FS := fun E S => f { E with nx := fun S' => g E S' } S
theorem dss_nil : DSs X W mask [] sNx := ⟨pss_le pss_nil fun D σ H h => by
  obtain ⟨G, S, E, l, rs, hF, nx, rt, bk, ct, ex⟩ := h
  exact nx S σ H (Ag.refl σ) l hF rs⟩
theorem dss_cons {st : Stmt} {rest : List Stmt} {f g : FS} (h1 : DS X W mask st f) (h2 : DSs X W mask rest g) : DSs X W mask (st :: rest) (sSeq f g) := ⟨pss_le (pss_cons h1.ps h2.ps) fun D σ H h => by
  obtain ⟨G, S, E, l, rs, hF, nx, rt, bk, ct, ex⟩ := h
  exact ⟨G, S, _, l, rs, hF, fun S' σ' H' ag l' hn rs' => ⟨G, S', E, l', rs', hn, fun S2 σ2 H2 ag2 l2 => nx S2 σ2 H2 (ag.trans ag2) l2, fun m S2 v σ2 H2 ag2 l2 => rt m S2 v σ2 H2 (ag.trans ag2) l2,
    fun S2 σ2 H2 ag2 l2 => bk S2 σ2 H2 (ag.trans ag2) l2, fun S2 σ2 H2 ag2 l2 => ct S2 σ2 H2 (ag.trans ag2) l2, fun c fs S2 d σ2 H2 ag2 l2 => ex c fs S2 d σ2 H2 (ag.trans ag2) l2⟩, rt, bk, ct, ex⟩⟩
theorem dss_one {st : Stmt} {f : FS} (h1 : DS X W mask st f) : DSs X W mask [st] f := ⟨pss_le (pss_one h1.ps) fun D σ H h => h⟩
def sBk : FS := fun E S => E.bk S
def sCt : FS := fun E S => E.ct S
theorem ds_pass {pos : Pos} : DS X W mask (.Pass pos) sNx := ⟨ps_le ps_pass fun D σ H h => by
  obtain ⟨G, S, E, l, rs, hF, nx, rt, bk, ct, ex⟩ := h
  exact nx S σ H (Ag.refl σ) l hF rs⟩
theorem ds_break {pos : Pos} : DS X W mask (.Break pos) sBk := ⟨ps_le ps_break fun D σ H h => by
  obtain ⟨G, S, E, l, rs, hF, nx, rt, bk, ct, ex⟩ := h
  exact bk S σ H (Ag.refl σ) l hF rs⟩
theorem ds_continue {pos : Pos} : DS X W mask (.Continue pos) sCt := ⟨ps_le ps_continue fun D σ H h => by
  obtain ⟨G, S, E, l, rs, hF, nx, rt, bk, ct, ex⟩ := h
  exact ct S σ H (Ag.refl σ) l hF rs⟩
def sFalse : FS := fun _ _ => False
theorem ds_never {st : Stmt} : DS X W mask st sFalse := ⟨ps_le ps_never fun D σ H h => by
  obtain ⟨G, S, E, l, rs, hF, nx, rt, bk, ct, ex⟩ := h
  exact hF⟩
def sEx (F : FE) : FS := fun E S => F S (fun _ S' => E.nx S') E.ex
theorem ds_expr {e : Expr} {F : FE} {pos : Pos} (h : DE X W e F) (hs : swapsWith e none pos.line X.env = pure false := by rfl) : DS X W mask (.Expr e pos) (sEx F) := ⟨ps_le (ps_expr h.pe hs) fun D σ H h => by
  obtain ⟨G, S, E, l, rs, hF, nx, rt, bk, ct, ex⟩ := h
  exact ⟨G, S, _, E.ex, l, rs, hF, fun m S' v H' l' hm rs' => nx S' σ H' (Ag.refl σ) l' hm rs'.drop, fun c fs S' d H' l' hx xo => ex c fs S' d σ H' (Ag.refl σ) l' hx xo⟩⟩
def sRt (F : FE) : FS := fun E S => F S E.rt E.ex
theorem ds_ret {e : Expr} {F : FE} {pos : Pos} (h : DE X W e F) : DS X W mask (.Return (some e) pos) (sRt F) := ⟨ps_le (ps_ret h.pe) fun D σ H h => by
  obtain ⟨G, S, E, l, rs, hF, nx, rt, bk, ct, ex⟩ := h
  exact ⟨G, S, _, E.ex, l, rs, hF, fun m S' v H' l' hm rs' => rt m S' v σ H' (Ag.refl σ) l' hm rs', fun c fs S' d H' l' hx xo => ex c fs S' d σ H' (Ag.refl σ) l' hx xo⟩⟩
def sRtN : FS := fun E S => E.rt (.v .non) S
theorem ds_retN {pos : Pos} : DS X W mask (.Return none pos) sRtN := ⟨ps_le ps_retN fun D σ H h => by
  obtain ⟨G, S, E, l, rs, hF, nx, rt, bk, ct, ex⟩ := h
  exact rt _ S _ σ H (Ag.refl σ) l hF (rs.data fun _ => .non)⟩
def sIf (c : FT) (f g : FS) : FS := fun E S => c S (fun b S' => iteP b (f E S') (g E S')) E.ex
theorem ds_if {c : Expr} {a b : List Stmt} {fc : FT} {f g : FS} {pos : Pos} (hc : DT X W c fc) (ha : DSs X W mask a f) (hb : DSs X W mask b g) : DS X W mask (.If c a b pos) (sIf fc f g) := ⟨ps_le (ps_if hc.pt ha.ps hb.ps) fun D σ H h => by
  obtain ⟨G, S, E, l, rs, hF, nx, rt, bk, ct, ex⟩ := h
  refine ⟨G, S, _, E.ex, l, rs, hF, fun c S' H' l' hm rs' => ?_, fun c fs S' d H' l' hx xo => ex c fs S' d σ H' (Ag.refl σ) l' hx xo⟩
  cases c with
  | true =>
    rw [iteP_t] at hm; rw [if_pos rfl]
    exact ⟨G, S', E, l', rs', hm, nx, rt, bk, ct, ex⟩
  | false =>
    rw [iteP_f] at hm; rw [if_neg (by decide)]
    exact ⟨G, S', E, l', rs', hm, nx, rt, bk, ct, ex⟩⟩

/-! ### targets -/
abbrev FG := M → List M → (List M → Prop) → XM → Prop
abbrev FGs := List M → List M → (List M → Prop) → XM → Prop
def tDG (K : PySem.W.Frag) (W : WX) (mask : List Bool) (F : FG) : TG := fun v σ H Q => ∃ (G : List Pr) (S : List M) (m : M) (R : List M → Prop) (XR : XM), σ.length = S.length ∧ RS K H ((some v, m) :: (G ++ σ.zip S)) ∧ F m S R XR ∧
  (∀ S' σ' H', Ag mask σ σ' → σ'.length = S'.length → R S' → RS K H' (G ++ σ'.zip S') → Q σ' H') ∧
  (∀ c fs S' d σ' H', Ag mask σ σ' → σ'.length = S'.length → XR (c, fs) S' → XOk K H' d fs (G ++ σ'.zip S') → W c d σ' H')
structure DG (X : Cx) (W : WX) (mask : List Bool) (tg : Expr) (F : FG) : Prop where
  pg : PG X tg (tDG X.K W mask F)
theorem pg_le {e : Expr} {t t' : TG} (h : PG X e t) (k : ∀ v σ H Q, t' v σ H Q → t v σ H Q) : PG X e t' := ⟨fun pins s σ H v u Q I r q => h.run pins s σ H v u Q I r (k v σ H Q q)⟩
/-- the names of a tuple target by their slots -/
def setAll : List Nat → List M → List M → List M
  | i :: is, m :: ms, S => setAll is ms (S.set i m)
  | _, _, S => S
def gNm (i : Nat) : FG := fun m S R _ => setK S i m R
theorem RS.put' {K : PySem.W.Frag} {H : Hp} {G : List Pr} {σ : L2.St} {S : List M} {i : Nat} {x : Option V} {m : M} (h : RS K H ((x, m) :: (G ++ σ.zip S))) (l : σ.length = S.length) : RS K H (G ++ (σ.set i x).zip (S.set i m)) := by
  by_cases hi : i < S.length
  · exact h.put l hi
  · rw [List.set_eq_of_length_le (by omega), List.set_eq_of_length_le (by omega)]
    exact h.drop
theorem dg_name {i : Nat} {x : Str} {pos : Pos} (hN : X.N.Nodup) (hi : X.N[i]? = some x) (hx : Loc X.env.scope x) (hm : mask[i]? ≠ some true := by decide) (hf : X.fn x = true ∨ X.env.scope.names.lookup x = some .local := by first | exact .inl rfl | exact .inr rfl | assumption) : DG X W mask (.Name x pos) (gNm i) :=
  ⟨pg_le (pg_name hN hi hx hf) fun v σ H Q h => by
    obtain ⟨G, S, m, R, XR, l, rs, hF, hQ, hX⟩ := h
    exact hQ _ _ _ (Ag.set _ hm) (by rw [List.length_set, List.length_set]; exact l) (Eq.mp (setK_eq _ _ _ _) hF) (rs.put' l)⟩
def tDGs (K : PySem.W.Frag) (W : WX) (mask : List Bool) (F : FGs) : TGs := fun vs σ H Q => ∃ (G : List Pr) (S : List M) (ms : List M) (R : List M → Prop) (XR : XM), σ.length = S.length ∧ vs.length = ms.length ∧ RS K H ((vs.map some).zip ms ++ (G ++ σ.zip S)) ∧ F ms S R XR ∧
  (∀ S' σ' H', Ag mask σ σ' → σ'.length = S'.length → R S' → RS K H' (G ++ σ'.zip S') → Q σ' H') ∧
  (∀ c fs S' d σ' H', Ag mask σ σ' → σ'.length = S'.length → XR (c, fs) S' → XOk K H' d fs (G ++ σ'.zip S') → W c d σ' H')
structure DGs (X : Cx) (W : WX) (mask : List Bool) (tg : List Expr) (F : FGs) : Prop where
  pg : PGs X tg (tDGs X.K W mask F)
theorem pgs_le {e : List Expr} {t t' : TGs} (h : PGs X e t) (k : ∀ v σ H Q, t' v σ H Q → t v σ H Q) : PGs X e t' := ⟨fun pins s σ H v u Q I r q => h.run pins s σ H v u Q I r (k v σ H Q q)⟩
def gsNil : FGs := fun ms S R _ => ms = [] ∧ R S
def gsCons (f : FG) (fr : FGs) : FGs := fun ms S R XR => match ms with
  | m :: ms => f m S (fun S1 => fr ms S1 R XR) XR
  | [] => False
theorem dgs_nil : DGs X W mask [] gsNil := ⟨pgs_le pgs_nil fun vs σ H Q h => by
  obtain ⟨G, S, ms, R, XR, l, lv, rs, hF, hQ, hX⟩ := h
  obtain ⟨rfl, hr⟩ := hF
  cases vs with
  | nil => exact ⟨rfl, hQ S σ H (Ag.refl σ) l hr rs⟩
  | cons v vs => cases lv⟩
theorem dgs_cons {e : Expr} {es : List Expr} {f : FG} {fr : FGs} (h1 : DG X W mask e f) (h2 : DGs X W mask es fr)
    (hs : (assignEach (e :: es) X.env).map (·.2) = assign e X.env :: (assignEach es X.env).map (·.2) := by rfl) : DGs X W mask (e :: es) (gsCons f fr) := ⟨pgs_le (pgs_cons h1.pg h2.pg hs) fun vs σ H Q h => by
  obtain ⟨G, S, ms, R, XR, l, lv, rs, hF, hQ, hX⟩ := h
  cases ms with
  | nil => exact hF.elim
  | cons m ms =>
    cases vs with
    | nil => cases lv
    | cons v vs =>
      refine ⟨v, vs, rfl, ?_⟩
      have rs1 : RS X.K H ((some v, m) :: (((vs.map some).zip ms ++ G) ++ σ.zip S)) := by rw [List.append_assoc]; exact rs
      refine ⟨(vs.map some).zip ms ++ G, S, m, _, XR, l, rs1, hF, fun S1 σ1 H1 ag1 l1 h1' rs2 => ?_, fun c fs S' d σ' H' ag l' hx xo => hX c fs S' d σ' H' ag l' hx (xo.imp fun L1 r => ?_)⟩
      · rw [List.append_assoc] at rs2
        exact ⟨G, S1, ms, R, XR, l1, Nat.succ.inj lv, rs2, h1', fun S2 σ2 H2 ag2 l2 => hQ S2 σ2 H2 (ag1.trans ag2) l2, fun c fs S2 d σ2 H2 ag2 l2 => hX c fs S2 d σ2 H2 (ag1.trans ag2) l2⟩
      · rw [List.append_assoc] at r
        exact RS.dropL (RS.rot r)⟩
/-- a tuple target -/
def gTp (n : Nat) (f : FGs) : FG := fun m S R XR => ∃ ds, tpV m = some ds ∧ ds.length = n ∧ f (ds.map M.v) S R XR
theorem RS.items {K : PySem.W.Frag} {H : Hp} {O : List Addr} {vs : List V} {ds : List D} {L : List Pr} (n : O.Nodup) (r : RDs K H O vs ds) (q : RL K H O L O) : RS K H ((vs.map some).zip (ds.map M.v) ++ L) := by
  have h : ∀ {vs : List V} {ds : List D}, RDs K H O vs ds → RL K H O ((vs.map some).zip (ds.map M.v)) [] := by
    intro vs ds r
    induction vs generalizing ds with
    | nil => cases r; exact .nil
    | cons v vs ih => cases r with | cons h r => exact .cons (fp := []) (.v h) (ih r)
  exact ⟨O, n, (h r).append q⟩
theorem dg_tup {es : List Expr} {k n : Nat} {pos : Pos} {f : FGs} (hc : X.calm = true) (h : DGs X W mask es f) (hn : (assignEach es X.env).length = n := by rfl) (hst : (assignEach es X.env).findIdx? (·.1) = none := by rfl) : DG X W mask (.Tuple es k pos) (gTp n f) := ⟨pg_le (pg_tup (n := n) hc h.pg hn hst) fun v σ H Q h => by
  obtain ⟨G, S, m, R, XR, l, rs, hF, hQ, hX⟩ := h
  obtain ⟨ds, e0, e1, hf⟩ := hF
  obtain ⟨O, f1, nd, h1, r⟩ := RS.one rs
  obtain ⟨a, vs, e2, s1, r1⟩ := h1.tp e0
  cases e2
  refine ⟨a, vs, rfl, s1, r1.length.trans e1, ?_⟩
  refine ⟨(some (.ref a), m) :: G, S, ds.map M.v, R, XR, l, by rw [List.length_map]; exact r1.length, RS.items nd r1 r, hf, fun S' σ' H' ag l' hr rs' => hQ S' σ' H' ag l' hr rs'.drop, fun c fs S' d σ' H' ag l' hx xo => hX c fs S' d σ' H' ag l' hx xo.drop⟩⟩
/-- o[i] = .. -/
def gSb (b : BM) (fo fi : FO) : FG := fun m S R XR => fo S (fun a S1 => fi S1 (fun c S2 => callB b [a, c, .m m] S2 fun _ S' => R S') XR) XR
def setR (K : PySem.W.Frag) (b : BM) : TSet := fun o i v H Q => rB K b [o, i, v] H fun _ H' => Q H'
theorem dg_sub {o i : Expr} {fo fi : FO} {b : BM} {pos : Pos} (ho : DO X W o fo) (hi : DO X W i fi) (hs : PSet X (setR X.K b))
    (ha : ∀ v, assign (.Subscript o i pos) X.env v = (do
      let ov ← holding [v] (eval o X.env)
      let iv ← holding [v, ov] (eval i X.env)
      standAt pos
      holding [v, ov, iv] (setItem ov iv v)
      release [v, ov, iv] []) := by intro _; rfl) : DG X W mask (.Subscript o i pos) (gSb b fo fi) := ⟨pg_le (pg_sub ho.pe hi.pe hs ha) fun v σ H Q h => by
  obtain ⟨G, S, m, R, XR, l, rs, hF, hQ, hX⟩ := h
  refine ⟨(some v, m) :: G, S, _, XR, l, rs, hF, fun a S1 x H1 l1 h1 ok1 rs1 => ?_, fun c fs S' d H' l' hx xo => hX c fs S' d σ H' (Ag.refl σ) l' hx xo.drop⟩
  refine ⟨(some x, arM a) :: (some v, m) :: G, S1, _, XR, l1, rs1, h1, fun c S2 y H2 l2 h2 ok2 rs2 => ?_, fun c fs S' d H' l' hx xo => hX c fs S' d σ H' (Ag.refl σ) l' hx xo.drop.drop⟩
  refine rB_of (as := [a, c, .m m]) (vs := [x, y, v]) l2 ⟨ok1, ok2, trivial, trivial⟩ rs2.swap h2 fun r S' w H' l' hr rs' => hQ S' σ H' (Ag.refl σ) l' hr rs'.drop⟩
def sAs (F : FE) (g : FG) : FS := fun E S => F S (fun m S' => g m S' E.nx E.ex) E.ex
theorem ds_asg {tg e : Expr} {F : FE} {g : FG} {pos : Pos} (he : DE X W e F) (hg : DG X W mask tg g) (hs : swapsWithSole [tg] e pos.line X.env = pure false := by rfl) (hw : swappedStores [tg] e X.env = pure none := by rfl) (h1 : (assignEach [tg] X.env).map (·.2) = [assign tg X.env] := by rfl) : DS X W mask (.Assign [tg] e pos) (sAs F g) := ⟨ps_le (ps_asg he.pe hg.pg hs hw h1) fun D σ H h => by
  obtain ⟨G, S, E, l, rs, hF, nx, rt, bk, ct, ex⟩ := h
  exact ⟨G, S, _, E.ex, l, rs, hF, fun m S' v H' l' hm rs' => ⟨G, S', m, E.nx, E.ex, l', rs', hm, nx, ex⟩, fun c fs S' d H' l' hx xo => ex c fs S' d σ H' (Ag.refl σ) l' hx xo⟩⟩
def sSet (i : Nat) (F : FE) : FS := fun E S => F S (fun m S' => setK S' i m E.nx) E.ex
theorem ds_set {i : Nat} {x : Str} {e : Expr} {F : FE} {pos' pos : Pos} (hN : X.N.Nodup) (hi : X.N[i]? = some x) (hx : Loc X.env.scope x) (he : DE X W e F) (hm : mask[i]? ≠ some true := by decide) (hs : swapsWith e (some (.Name x pos')) pos.line X.env = pure false := by rfl)
    (hf : X.fn x = true ∨ X.env.scope.names.lookup x = some .local := by first | exact .inl rfl | exact .inr rfl | assumption) : DS X W mask (.Assign [.Name x pos'] e pos) (sSet i F) := ⟨ps_le (ps_set hN hi hx he.pe hs hf) fun D σ H h => by
  obtain ⟨G, S, E, l, rs, hF, nx, rt, bk, ct, ex⟩ := h
  exact ⟨G, S, _, E.ex, l, rs, hF, fun m S' v H' l' hmm rs' => nx _ _ H' (Ag.set _ hm) (by rw [List.length_set, List.length_set]; exact l') (Eq.mp (setK_eq _ _ _ _) hmm) (rs'.put' l'), fun c fs S' d H' l' hx xo => ex c fs S' d σ H' (Ag.refl σ) l' hx xo⟩⟩
/-- x op= e -/
def hasB (i : Nat) (S : List M) : Bool := match S[i]? with
  | some .gone => false
  | some _ => true
  | none => false
theorem hasB.at {i : Nat} {S : List M} (h : hasB i S = true) : hasAt i S := by
  unfold hasB at h
  unfold hasAt
  cases e : S[i]? with
  | none => rw [e] at h; cases h
  | some m =>
    rw [e] at h
    cases m with
    | gone => cases h
    | _ => trivial
def sAug (i : Nat) (b : BM) (F : FE) : FS := fun E S => chk (hasB i S) <| F S (fun m S' => callB b [.n i, .m m] S' fun r S'' => setK S'' i r E.nx) E.ex
def r2I (K : PySem.W.Frag) (b : BM) : TIp := fun x y H Q => rB K b [x, y] H Q
theorem ds_aug {i : Nat} {x : Str} {e : Expr} {F : FE} {b : BM} {op : Operator} {pos' pos : Pos} (hN : X.N.Nodup) (hi : X.N[i]? = some x) (hx : Loc X.env.scope x) (he : DE X W e F) (ho : PIp X op (r2I X.K b)) (hm : mask[i]? ≠ some true := by decide)
    (hf : X.fn x = true ∨ X.env.scope.names.lookup x = some .local := by first | exact .inl rfl | exact .inr rfl | assumption) : DS X W mask (.AugAssign (.Name x pos') op e pos) (sAug i b F) := ⟨ps_le (ps_aug hN hi hx he.pe ho hf) fun D σ H h => by
  obtain ⟨G, S, E, l, rs, hF, nx, rt, bk, ct, ex⟩ := h
  have hF := hF.ok
  obtain ⟨m, e, n⟩ := (hasB.at hF.1).get
  obtain ⟨x', e1, r⟩ := rs.take l e
  obtain ⟨v, rfl⟩ := r.some_of n
  refine ⟨v, e1, G, S, _, E.ex, l, rs, hF.2, fun m S' y H' l' hmm rs' => ?_, fun c fs S' d H' l' hx xo => ex c fs S' d σ H' (Ag.refl σ) l' hx xo⟩
  exact rB_of (as := [.n i, .m m]) (vs := [v, y]) l' ⟨e1, trivial, trivial⟩ (rs'.add0 _) hmm fun r S'' z H'' l'' hr rs'' => nx _ _ H'' (Ag.set _ hm) (by rw [List.length_set, List.length_set]; exact l'') (Eq.mp (setK_eq _ _ _ _) hr) (rs''.put' l'')⟩

/-! ### while -/
def whN (c : FT) (b : FS) (E : EM) : Nat → List M → Prop
  | 0, _ => False
  | n + 1, S => c S (fun k S' => iteP k (b { E with nx := whN c b E n, ct := whN c b E n, bk := E.nx } S') (E.nx S')) E.ex
def sWh (c : FT) (b : FS) : FS := fun E S => ∃ n, whN c b E n S
theorem ds_while {c : Expr} {body : List Stmt} {fc : FT} {f : FS} {pos : Pos} (hp : PassesOwn (model X.prog X.w) X.A X.env X.xe) (hc : DT X W c fc) (hb : DSs X W mask body f) : DS X W mask (.While c body [] pos) (sWh fc f) := ⟨ps_le (ps_while hp hc.pt hb.ps) fun D σ H h => by
  obtain ⟨G, S, E, l, rs, hF, nx, rt, bk, ct, ex⟩ := h
  obtain ⟨n, hF⟩ := hF
  refine ⟨fun m σ' H' => ∃ S', Ag mask σ σ' ∧ σ'.length = S'.length ∧ RS X.K H' (G ++ σ'.zip S') ∧ whN fc f E m S', ⟨n, S, Ag.refl σ, l, rs, hF⟩, fun m σ1 H1 hW => ?_⟩
  obtain ⟨S1, ag1, l1, rs1, h1⟩ := hW
  cases m with
  | zero => exact h1.elim
  | succ m =>
    refine ⟨G, S1, _, E.ex, l1, rs1, h1, fun k S2 H2 l2 h2 rs2 => ?_, fun c fs S' d H' l' hx xo => ex c fs S' d σ1 H' ag1 l' hx xo⟩
    cases k with
    | true =>
      rw [iteP_t] at h2; rw [if_pos rfl]
      refine ⟨fun σ' H' => ∃ S', Ag mask σ σ' ∧ σ'.length = S'.length ∧ RS X.K H' (G ++ σ'.zip S') ∧ whN fc f E m S', fun σ' H' hN => ⟨m, Nat.lt_succ_self m, hN⟩, ?_⟩
      exact ⟨G, S2, _, l2, rs2, h2, fun S' σ' H' ag l' hn rs' => ⟨S', ag1.trans ag, l', rs', hn⟩, fun m S' v σ' H' ag l' => rt m S' v σ' H' (ag1.trans ag) l', fun S' σ' H' ag l' => nx S' σ' H' (ag1.trans ag) l', fun S' σ' H' ag l' hn rs' => ⟨S', ag1.trans ag, l', rs', hn⟩,
        fun c fs S' d σ' H' ag l' => ex c fs S' d σ' H' (ag1.trans ag) l'⟩
    | false =>
      rw [iteP_f] at h2; rw [if_neg (by decide)]
      exact nx S2 σ1 H2 ag1 l2 h2 rs2⟩
/-- by a word and a measure -/
theorem wh_by {c : FT} {b : FS} {E : EM} (P : List M → Prop) (μ : List M → Nat) (h : ∀ S, P S → ∀ n, (∀ S', P S' → μ S' < μ S → whN c b E n S') → whN c b E (n + 1) S) : ∀ (n : Nat) (S : List M), P S → μ S < n → whN c b E n S := by
  intro n
  induction n with
  | zero => intro S _ hn; exact absurd hn (Nat.not_lt_zero _)
  | succ n ih => intro S hP hn; exact h S hP n fun S' hP' hl => ih S' hP' (by omega)

/-! ### for -/
abbrev FI := List M → (List D → List M → Prop) → XM → Prop
/-- the iterator gives the items in their order while P stands -/
def Serve (K : PySem.W.Frag) (J : It) (P : List Pr) (items : List D) : Prop := ∀ (i : Nat) (H : Hp) (L : List Pr), RS K H (P ++ L) →
  (∀ d, items[i]? = some d → J.go i H ∧ ∀ x H', J.yld i H x H' → RS K H' ((some x, .v d) :: (P ++ L))) ∧ (items.length ≤ i → J.stop i H)
def tDI (K : PySem.W.Frag) (W : WX) (F : FI) : TI := fun σ H Q => ∃ (G : List Pr) (S : List M) (R : List D → List M → Prop) (XR : XM), σ.length = S.length ∧ RS K H (G ++ σ.zip S) ∧ F S R XR ∧
  (∀ items S' J P H', σ.length = S'.length → R items S' → Serve K J P items → RS K H' (P ++ (G ++ σ.zip S')) → Q J H') ∧
  (∀ c fs S' d H', σ.length = S'.length → XR (c, fs) S' → XOk K H' d fs (G ++ σ.zip S') → W c d σ H')
structure DI (X : Cx) (W : WX) (tg e : Expr) (F : FI) : Prop where
  pi : PI X tg e (tDI X.K W F)
theorem pi_le {tg e : Expr} {t t' : TI} (h : PI X tg e t) (k : ∀ σ H Q, t' σ H Q → t σ H Q) : PI X tg e t' := ⟨fun pins s σ H Q I q => h.run pins s σ H Q I (k σ H Q q)⟩
def forL (g : FG) (b : FS) (E : EM) : List D → List M → Prop
  | [], S => E.nx S
  | d :: ds, S => g (.v d) S (fun S1 => b { E with nx := forL g b E ds, ct := forL g b E ds, bk := E.nx } S1) E.ex
structure ForL (g : FG) (b : FS) (E : EM) (ds : List D) (S : List M) : Prop where
  go : forL g b E ds S
def sFor (fi : FI) (g : FG) (b : FS) : FS := fun E S => fi S (fun items S' => ForL g b E items S') E.ex
theorem ds_for {tg iter : Expr} {body : List Stmt} {fi : FI} {g : FG} {f : FS} {pos : Pos} (hp : PassesOwn (model X.prog X.w) X.A X.env X.xe) (hc : X.calm = true) (hi : DI X W tg iter fi) (hg : DG X W mask tg g) (hb : DSs X W mask body f)
    (hs : ∀ x, foldedSetIterable iter X.env x = pure x := by intro _; rfl) : DS X W mask (.For tg iter body [] pos) (sFor fi g f) := ⟨ps_le (ps_for hp hc hi.pi hg.pg hb.ps hs) fun D σ H h => by
  obtain ⟨G, S, E, l, rs, hF, nx, rt, bk, ct, ex⟩ := h
  refine ⟨G, S, _, E.ex, l, rs, hF, fun items S0 J P H0 l0 h0 sv rs0 => ?_, fun c fs S' d H' l' hx xo => ex c fs S' d σ H' (Ag.refl σ) l' hx xo⟩
  refine ⟨fun i m σ' H' => ∃ S', Ag mask σ σ' ∧ σ'.length = S'.length ∧ RS X.K H' (P ++ (G ++ σ'.zip S')) ∧ i + m = items.length ∧ forL g f E (items.drop i) S', ⟨items.length, S0, Ag.refl σ, l0, rs0, Nat.zero_add _, h0.go⟩, fun i m σ1 H1 hW => ?_⟩
  obtain ⟨S1, ag1, l1, rs1, em, h1⟩ := hW
  obtain ⟨s1, s2⟩ := sv i H1 _ rs1
  cases e : items[i]? with
  | none =>
    have hl : items.length ≤ i := List.getElem?_eq_none_iff.mp e
    rw [List.drop_eq_nil_of_le hl] at h1
    exact .inl ⟨s2 hl, nx S1 σ1 H1 ag1 l1 h1 (RS.dropL rs1)⟩
  | some d =>
    have hl : i < items.length := (List.getElem?_eq_some_iff.mp e).1
    rw [List.drop_eq_getElem_cons hl, (List.getElem?_eq_some_iff.mp e).2] at h1
    obtain ⟨g1, g2⟩ := s1 d e
    refine .inr ⟨g1, fun σ' H' => ∃ S', Ag mask σ σ' ∧ σ'.length = S'.length ∧ RS X.K H' (P ++ (G ++ σ'.zip S')) ∧ forL g f E (items.drop (i + 1)) S', fun σ' H' ⟨S', a, b, c, e⟩ => ⟨m - 1, by omega, S', a, b, c, by omega, e⟩, fun x H2 hy => ?_⟩
    have rs2 : RS X.K H2 ((some x, .v d) :: ((P ++ G) ++ σ1.zip S1)) := by rw [List.append_assoc]; exact g2 x H2 hy
    have dropP : ∀ {L1 : List Pr} {σ' : L2.St} {S' : List M} {H' : Hp}, RS X.K H' (L1 ++ ((P ++ G) ++ σ'.zip S')) → RS X.K H' (L1 ++ (G ++ σ'.zip S')) := fun {L1 σ' S' H'} r => by
      rw [List.append_assoc] at r
      exact RS.dropL (RS.rot r)
    refine ⟨P ++ G, S1, .v d, _, E.ex, l1, rs2, h1, fun S2 σ2 H3 ag2 l2 h2 rs3 => ?_, fun c fs S' d σ' H' ag l' hx xo => ex c fs S' d σ' H' (ag1.trans ag) l' hx (xo.imp fun L1 r => dropP r)⟩
    have ag12 := ag1.trans ag2
    refine ⟨P ++ G, S2, _, l2, rs3, h2, fun S' σ' H' ag l' hn rs' => ⟨S', ag12.trans ag, l', by rw [← List.append_assoc]; exact rs', hn⟩, fun m S' v σ' H' ag l' hr rs' => rt m S' v σ' H' (ag12.trans ag) l' hr (dropP (L1 := [(some v, m)]) rs'), fun S' σ' H' ag l' hn rs' => nx S' σ' H' (ag12.trans ag) l' hn (dropP (L1 := []) rs'),
      fun S' σ' H' ag l' hn rs' => ⟨S', ag12.trans ag, l', by rw [← List.append_assoc]; exact rs', hn⟩, fun c fs S' d σ' H' ag l' hx xo => ex c fs S' d σ' H' (ag12.trans ag) l' hx (xo.imp fun L1 r => dropP r)⟩⟩
end
end DM

/-! What is walked; methods of lists; calls of defs; defs; comprehensions. -/
namespace DM
open PySem PySem.Spec PyProof.Rows
open L2
section
variable {X : Cx} {W : WX} {mask : List Bool}

/-! ### what is walked -/
def itM : M → Option (List D)
  | .v (.lst ds) => some ds
  | .ml ds => some ds
  | .v (.tup ds) => some ds
  | .v (.str x) => some (x.cps.toList.map fun c => .str ⟨#[c]⟩)
  | _ => none
def iVal (F : FE) : FI := fun S R XR => F S (fun m S' => ∃ ds, itM m = some ds ∧ R ds S') XR
theorem pi_any {tg l : Expr} {tl : TE} (hl : PE X l tl) : PI X tg l (fun σ H R => tl σ H fun x H1 => (∃ a, x = .ref a ∧ (∃ xs, SqL X.K H1 a xs) ∧ R (Itl X.K a) H1) ∨ (∃ a, x = .ref a ∧ (∃ xs, SqT X.K H1 a xs) ∧ R (Itt X.K a) H1) ∨ ∃ y, x = .str y ∧ R (Its y) H1) := by
  refine ⟨fun pins s σ H R I h => ?_⟩
  refine thn (hl.run pins s σ H _ I h) fun v s1 ⟨x, H1, I1, r1, q1⟩ => ?_
  rcases q1 with ⟨a, e, ⟨xs, hq⟩, q⟩ | ⟨a, e, ⟨xs, hq⟩, q⟩ | ⟨x, ex, q⟩
  · subst e
    cases r1
    obtain ⟨its, rv, p, hz⟩ := I1.list hq
    refine wpAny_pyIter_list p.isList ?_
    refine ⟨s1.heap.objs.size, [s1.heap.objs.size], _, _, H1, rfl, I1.kept (t' := s1.toks) fun b o e => Heap.get?_push_of_some _ e, turn_list a _, ⟨_, Heap.get?_push_size _ rfl, rfl, rfl⟩, fun b hb => ?_, q⟩
    have e : b = s1.heap.objs.size := by simpa using hb
    subst e
    exact I1.fpOk (Nat.le_refl _) (I1.hok.fresh (Nat.le_refl _))
  · subst e
    cases r1
    obtain ⟨its, rv, p, hz⟩ := I1.tuple hq
    refine wpAny_pyIter_tuple (show s1.heap.IsTuple a its.toArray from p) ?_
    refine ⟨s1.heap.objs.size, [s1.heap.objs.size], _, _, H1, rfl, I1.kept (t' := s1.toks) fun b o e => Heap.get?_push_of_some _ e, turn_tuple a _, ⟨_, Heap.get?_push_size _ rfl, rfl, rfl⟩, fun b hb => ?_, q⟩
    have e : b = s1.heap.objs.size := by simpa using hb
    subst e
    exact I1.fpOk (Nat.le_refl _) (I1.hok.fresh (Nat.le_refl _))
  · subst ex
    obtain ⟨t, rfl⟩ := r1
    cases ha : x.cps.all (· < 128)
    · exact wpAny_pyIter_wide ha (pi_one (tk := s1.toks) I1 _ (turn_str _ x t "str_iterator" (.inr rfl)) ⟨_, Heap.get?_push_size _ rfl, rfl, rfl⟩ q)
    · exact wpAny_pyIter_ascii ha (pi_one (tk := s1.toks) I1 _ (turn_str _ x t "str_ascii_iterator" (.inl rfl)) ⟨_, Heap.get?_push_size _ rfl, rfl, rfl⟩ q)
theorem RL.sub1 {K : PySem.W.Frag} {H : Hp} {O : List Addr} {x : Option V} {d : D} {L : List Pr} (n : O.Nodup) (h : ∃ v, x = some v ∧ RD K H O v d) (r : RL K H O L O) : RS K H ((x, .v d) :: L) := by
  obtain ⟨v, rfl, h⟩ := h
  exact ⟨O, n, .cons (fp := []) (.v h) r⟩
theorem sq_uniqL {K : PySem.W.Frag} {H : Hp} {a : Addr} {xs : List V} (h : SqL K H a xs) : SqL K H a xs := h
theorem serve_list {K : PySem.W.Frag} {a : Addr} {m : M} {ds : List D} (e : lsV m = some ds) : Serve K (Itl K a) [(some (.ref a), m)] ds := by
  intro i H L rs
  obtain ⟨O, f1, n, h1, r⟩ := RS.one rs
  obtain ⟨b, vs, e1, s1, r1⟩ := h1.ls e
  cases e1
  refine ⟨fun d hd => ?_, fun hi => ⟨vs, s1, by rw [r1.length]; exact hi⟩⟩
  obtain ⟨v, hv, rv⟩ := r1.get hd
  refine ⟨⟨vs, v, s1, hv⟩, fun x H' hy => ?_⟩
  obtain ⟨rfl, f⟩ := hy
  have ex := f vs s1
  rw [hv] at ex
  cases ex
  exact RL.sub1 n ⟨_, rfl, rv⟩ r
theorem serve_tup {K : PySem.W.Frag} {a : Addr} {m : M} {ds : List D} (e : tpV m = some ds) : Serve K (Itt K a) [(some (.ref a), m)] ds := by
  intro i H L rs
  obtain ⟨O, f1, n, h1, r⟩ := RS.one rs
  obtain ⟨b, vs, e1, s1, r1⟩ := h1.tp e
  cases e1
  refine ⟨fun d hd => ?_, fun hi => ⟨vs, s1, by rw [r1.length]; exact hi⟩⟩
  obtain ⟨v, hv, rv⟩ := r1.get hd
  refine ⟨⟨vs, v, s1, hv⟩, fun x H' hy => ?_⟩
  obtain ⟨rfl, f⟩ := hy
  have ex := f vs s1
  rw [hv] at ex
  cases ex
  exact RL.sub1 n ⟨_, rfl, rv⟩ r
theorem serve_str {K : PySem.W.Frag} (x : Str) : Serve K (Its x) [] (x.cps.toList.map fun c => .str ⟨#[c]⟩) := by
  intro i H L rs
  refine ⟨fun d hd => ?_, fun hi => by simpa [Its] using hi⟩
  rw [List.getElem?_map, Array.getElem?_toList] at hd
  cases q : x.cps[i]? with
  | none => rw [q] at hd; cases hd
  | some c =>
    rw [q] at hd
    cases hd
    have hl : i < x.cps.size := (Array.getElem?_eq_some_iff.mp q).1
    refine ⟨hl, fun v H' hy => ?_⟩
    obtain ⟨rfl, c', hc, rfl⟩ := hy
    rw [q] at hc
    cases hc
    exact rs.str _
theorem di_val {tg e : Expr} {F : FE} (h : DE X W e F) : DI X W tg e (iVal F) := ⟨pi_le (pi_any h.pe) fun σ H Q h => by
  obtain ⟨G, S, R, XR, l, rs, hF, hQ, hX⟩ := h
  refine ⟨G, S, _, XR, l, rs, hF, fun m S1 v H1 l1 h1 rs1 => ?_, hX⟩
  obtain ⟨ds, e, hr⟩ := h1
  obtain ⟨O, f1, n, hm, r⟩ := RS.one rs1
  have hls : lsV m = some ds → ∃ a, v = .ref a ∧ (∃ xs, SqL X.K H1 a xs) ∧ Q (Itl X.K a) H1 := fun e => by
    obtain ⟨a, vs, e1, s1, r1⟩ := hm.ls e
    cases e1
    exact ⟨a, rfl, ⟨vs, s1⟩, hQ ds S1 _ [(some (.ref a), m)] H1 l1 hr (serve_list e) rs1⟩
  have htp : tpV m = some ds → ∃ a, v = .ref a ∧ (∃ xs, SqT X.K H1 a xs) ∧ Q (Itt X.K a) H1 := fun e => by
    obtain ⟨a, vs, e1, s1, r1⟩ := hm.tp e
    cases e1
    exact ⟨a, rfl, ⟨vs, s1⟩, hQ ds S1 _ [(some (.ref a), m)] H1 l1 hr (serve_tup e) rs1⟩
  unfold itM at e
  split at e
  · exact .inl (hls e)
  · exact .inl (hls e)
  · exact .inr (.inl (htp e))
  · rename_i x
    cases e
    have e1 := hm.str
    cases e1
    exact .inr (.inr ⟨x, rfl, hQ _ S1 _ [] H1 l1 hr (serve_str x) rs1.drop⟩)
  · cases e⟩
@[irreducible] def rngD (lo : Int) (n : Nat) (c : Int) : List D := (List.range n).map fun k => .int (lo + (k : Nat) * c)
theorem rngD_get {lo : Int} {n : Nat} {c : Int} {i : Nat} {d : D} (h : (rngD lo n c)[i]? = some d) : i < n ∧ d = .int (lo + (i : Nat) * c) := by
  unfold rngD at h
  rw [List.getElem?_map] at h
  by_cases hi : i < n
  · rw [List.getElem?_range hi] at h
    exact ⟨hi, (Option.some.inj h).symm⟩
  · rw [List.getElem?_eq_none_iff.mpr (by simpa using hi)] at h
    cases h
theorem serve_rng {K : PySem.W.Frag} (lo : Int) (n : Nat) : Serve K (Itr lo n) [] (rngD lo n 1) := by
  intro i H L rs
  refine ⟨fun d hd => ?_, fun hi => by simpa [Itr, rngD] using hi⟩
  obtain ⟨hi, rfl⟩ := rngD_get hd
  refine ⟨hi, fun v H' hy => ?_⟩
  obtain ⟨rfl, rfl⟩ := hy
  rw [Int.mul_one]
  exact rs.int _
theorem serve_rngC {K : PySem.W.Frag} (lo : Int) (n : Nat) (c : Int) : Serve K (Itc lo c n) [] (rngD lo n c) := by
  intro i H L rs
  refine ⟨fun d hd => ?_, fun hi => by simpa [Itc, rngD] using hi⟩
  obtain ⟨hi, rfl⟩ := rngD_get hd
  refine ⟨hi, fun v H' hy => ?_⟩
  obtain ⟨rfl, rfl⟩ := hy
  exact rs.int _
def R62 (i : Int) : Prop := -(2 ^ 62) ≤ i ∧ i < 2 ^ 62
def iR1 (F : FA) : FI := fun S R XR => F S (fun ms S' => match ms with
  | [.v (.int j)] => R62 j ∧ R (rngD 0 j.toNat 1) S'
  | _ => False) XR
def iR2 (F : FA) : FI := fun S R XR => F S (fun ms S' => match ms with
  | [.v (.int i), .v (.int j)] => R62 i ∧ R62 j ∧ R (rngD i (j - i).toNat 1) S'
  | _ => False) XR
/-- downward by ones -/
def iR3 (F : FA) : FI := fun S R XR => F S (fun ms S' => match ms with
  | [.v (.int i), .v (.int j), .v (.int c)] => R62 i ∧ R62 j ∧ c = -1 ∧ R (rngD i (i - j).toNat (-1)) S'
  | _ => False) XR
theorem di_r1 {tg a : Expr} {F : FA} {p pos : Pos} (hg : Gl X "range") (hm : X.mg "range" = none) (ha : DA X W [a] F) (hs : starEach [a] X.env = [(false, eval a X.env)] := by rfl) : DI X W tg (.Call (.Name "range" p) [a] [] pos) (iR1 F) := ⟨pi_le (pi_range1 hg hm ha.pa hs) fun σ H Q h => by
  obtain ⟨G, S, R, XR, l, rs, hF, hQ, hX⟩ := h
  refine ⟨G, S, _, XR, l, rs, hF, fun ms S1 vs H1 l1 lv h1 rs1 => ?_, hX⟩
  split at h1
  · obtain ⟨v, rfl⟩ := one_of lv
    obtain ⟨O, f1, n, hm, r⟩ := RS.one rs1
    have e := hm.int
    cases e
    exact ⟨_, rfl, h1.1.1, h1.1.2, hQ _ S1 _ [] H1 l1 h1.2 (serve_rng _ _) rs1.drop⟩
  · exact h1.elim⟩
theorem di_r2 {tg a b : Expr} {F : FA} {p pos : Pos} (hg : Gl X "range") (hm : X.mg "range" = none) (ha : DA X W [a, b] F) (hs : starEach [a, b] X.env = [(false, eval a X.env), (false, eval b X.env)] := by rfl) (hs2 : starEach [b] X.env = [(false, eval b X.env)] := by rfl) : DI X W tg (.Call (.Name "range" p) [a, b] [] pos) (iR2 F) := ⟨pi_le (pi_range2 hg hm ha.pa hs hs2) fun σ H Q h => by
  obtain ⟨G, S, R, XR, l, rs, hF, hQ, hX⟩ := h
  refine ⟨G, S, _, XR, l, rs, hF, fun ms S1 vs H1 l1 lv h1 rs1 => ?_, hX⟩
  split at h1
  · obtain ⟨v, w, rfl⟩ := two_of lv
    obtain ⟨O, f1, f2, n, hm, hm2, r⟩ := RS.two rs1
    have e := hm.int
    have e2 := hm2.int
    cases e
    cases e2
    exact ⟨_, _, rfl, ⟨h1.1.1, h1.1.2, h1.2.1.1, h1.2.1.2⟩, hQ _ S1 _ [] H1 l1 h1.2.2 (serve_rng _ _) rs1.drop.drop⟩
  · exact h1.elim⟩
theorem three_of {α : Type} {xs : List α} (h : xs.length = 3) : ∃ a b c, xs = [a, b, c] := match xs, h with | [a, b, c], _ => ⟨a, b, c, rfl⟩
theorem di_r3 {tg a b c : Expr} {F : FA} {p pos : Pos} (hg : Gl X "range") (hm : X.mg "range" = none) (ha : DA X W [a, b, c] F)
    (hs : starEach [a, b, c] X.env = (false, eval a X.env) :: starEach [b, c] X.env := by rfl) (hpl : (backTo pos (starEach [b, c] X.env)).any (·.1) = false := by rfl) : DI X W tg (.Call (.Name "range" p) [a, b, c] [] pos) (iR3 F) := ⟨pi_le (pi_range3 hg hm ha.pa hs hpl) fun σ H Q h => by
  obtain ⟨G, S, R, XR, l, rs, hF, hQ, hX⟩ := h
  refine ⟨G, S, _, XR, l, rs, hF, fun ms S1 vs H1 l1 lv h1 rs1 => ?_, hX⟩
  split at h1
  · obtain ⟨v, w, z, rfl⟩ := three_of lv
    obtain ⟨O, f1, f2, n, hm, hm2, r⟩ := RS.two rs1
    have e := hm.int
    have e2 := hm2.int
    cases e
    cases e2
    obtain ⟨O', f3, n', hm3, r'⟩ := RS.one rs1.drop.drop
    have e3 := hm3.int
    cases e3
    obtain ⟨a1, a2, a3, a4⟩ := h1
    subst a3
    exact ⟨_, _, _, _, rfl, RgC.neg a1.1 a1.2 a2.1 a2.2, hQ _ S1 _ [] H1 l1 a4 (serve_rngC _ _ _) rs1.drop.drop.drop⟩
  · exact h1.elim⟩

/-! ### methods of lists -/
def arD (a : Ar) (S : List M) : M := match a with
  | .m m => m
  | .n i => S[i]?.getD .gone
def isL (m : M) : Prop := (lsV m).isSome = true
def fML (b : BM) (fo : FO) (fs : FOs) : FE := fun S R XR => fo S (fun a S1 => chk (lsV (arD a S1)).isSome (fs S1 (fun as S2 => callB b (a :: as) S2 R) XR)) XR
def fML0 (b : BM) (fo : FO) : FE := fun S R XR => fo S (fun a S1 => chk (lsV (arD a S1)).isSome (callB b [a] S1 R)) XR
theorem RS.tyL {K : PySem.W.Frag} {H : Hp} {σ : L2.St} {S : List M} {a : Ar} {v : V} {G : List Pr} (l : σ.length = S.length) (ok : ArOk σ a v) (rs : RS K H ((some v, arM a) :: (G ++ σ.zip S))) (h : isL (arD a S)) : tyV K "list" v H := by
  have go : ∀ {L : List Pr} {m : M}, RS K H ((some v, m) :: L) → isL m → tyV K "list" v H := fun {L m} rs h => by
    obtain ⟨O, f1, n, hm, r⟩ := RS.one rs
    unfold isL at h
    cases e : lsV m with
    | none => rw [e] at h; cases h
    | some ds =>
      obtain ⟨a, vs, e1, s1, r1⟩ := hm.ls e
      cases e1
      exact .inl ⟨rfl, _, s1⟩
  cases a with
  | m m => exact go rs h
  | n i =>
    unfold arD at h
    simp only at h
    cases e : S[i]? with
    | none => rw [e] at h; cases h
    | some m =>
      rw [e] at h
      obtain ⟨x, e1, r1⟩ := RS.take rs.drop l e
      have e2 : σ[i]? = some (some v) := ok
      rw [e2] at e1
      cases e1
      exact go r1 h
theorem de_mL {id : String} {name : Str} {b : BM} {o e : Expr} {es : List Expr} {fo : FO} {fs : FOs} {apos cpos : Pos} (slot : Slot "list" name id) (hty : typeOf (.builtin id) = pure (.type "method_descriptor")) (hm : MtR X id (fun x vs H Q => rB X.K b (x :: vs) H Q)) (ho : DO X W o fo) (ha : DOs X W (e :: es) fs)
    (hbase : attributeBase o name X.env (eval o X.env) = eval o X.env := by rfl)
    (hfew : ((backTo cpos (starEach (e :: es) X.env)).all (fun x => !x.1) && (backToKw cpos (keywordEach [] X.env)).all (fun x => x.1.isSome)
      && decide ((e :: es).length + ([] : List Keyword).length + (if ([] : List Keyword).isEmpty then 0 else 1) < 30)) = true := by rfl)
    (hline : (apos.endLine == cpos.line) = true := by rfl) (hs : starEach (e :: es) X.env = (false, eval e X.env) :: starEach es X.env := by rfl) (hplain : (backTo cpos (starEach es X.env)).any (·.1) = false := by rfl) : DE X W (.Call (.Attribute o name apos) (e :: es) [] cpos) (fML b fo fs) :=
  ⟨pe_le (pe_bm PySem.F.plainAttrs_list slot hty hm ho.pe ha.pa hbase hfew hline hs hplain) fun σ H Q h => by
    obtain ⟨G, S, R, XR, l, rs, hF, hQ, hX⟩ := h
    refine ⟨G, S, _, XR, l, rs, hF, fun a S1 v H1 l1 h1 ok1 rs1 => ⟨RS.tyL l1 ok1 rs1 h1.ok.1, ?_⟩, hX⟩
    refine ⟨(some v, arM a) :: G, S1, _, XR, l1, rs1, h1.ok.2, fun as S2 vs H2 l2 h2 ok2 rs2 => ?_, fun c fs S' d H' l' hx xo => hX c fs S' d H' l' hx xo.drop⟩
    exact rB_of (as := a :: as) (vs := v :: vs) l2 ⟨ok1, ok2⟩ (RS.perm (perm_mid _ _ _) rs2) h2 hQ⟩
theorem de_mL0 {id : String} {name : Str} {b : BM} {o : Expr} {fo : FO} {apos cpos : Pos} (slot : Slot "list" name id) (hty : typeOf (.builtin id) = pure (.type "method_descriptor")) (hm : MtR X id (fun x vs H Q => rB X.K b (x :: vs) H Q)) (ho : DO X W o fo)
    (hbase : attributeBase o name X.env (eval o X.env) = eval o X.env := by rfl) (hline : (apos.endLine == cpos.line) = true := by rfl) : DE X W (.Call (.Attribute o name apos) [] [] cpos) (fML0 b fo) :=
  ⟨pe_le (pe_bm0 PySem.F.plainAttrs_list slot hty hm ho.pe hbase hline) fun σ H Q h => by
    obtain ⟨G, S, R, XR, l, rs, hF, hQ, hX⟩ := h
    exact ⟨G, S, _, XR, l, rs, hF, fun a S1 v H1 l1 h1 ok1 rs1 => ⟨RS.tyL l1 ok1 rs1 h1.ok.1, rB_of (as := [a]) (vs := [v]) l1 ⟨ok1, trivial⟩ rs1 h1.ok.2 hQ⟩, hX⟩⟩
theorem mtR_of {id : String} {r : V → List V → Hp → VK → Prop} {b : BM} (hm : MtR X id r) (h : ∀ (x : V) (vs : List V) (H : Hp) (Q : VK), rB X.K b (x :: vs) H Q → r x vs H Q) : MtR X id (fun x vs H Q => rB X.K b (x :: vs) H Q) :=
  fun pins s σ H x xs v us Q I rx rv q => hm pins s σ H x xs v us Q I rx rv (h _ _ _ _ q)
def appendB : BM := fun ms R => match ms with
  | [.ml ds, e] => asD e fun d => ds.length < sizeLine ∧ R (.v .non) [.ml (ds ++ [d]), .v d]
  | _ => False
theorem RS.ml2 {K : PySem.W.Frag} {H : Hp} {x : Option V} {ds : List D} {L : List Pr} (rs : RS K H ((x, .ml ds) :: L)) : ∃ a vs, x = some (.ref a) ∧ H a = some (.lst vs) ∧ vs.length = ds.length ∧
    ∃ O, O.Nodup ∧ RDs K H O vs ds ∧ RL K H O ((x, .ml ds) :: L) O ∧ (∀ o, Stp H (upd H a o) O O) ∧ (∀ vs' ds', RDs K H O vs' ds' → RL K (upd H a (.lst vs')) O ((x, .ml ds') :: L) O) := by
  obtain ⟨O, n, r⟩ := rs
  have r' := r
  generalize hO : O = O' at r
  cases r with
  | cons h r =>
    rename_i fp f2
    have hO' : O = fp ++ f2 := hO
    cases h with
    | ml e r2 =>
      rename_i a vs
      have ha : a ∈ O := by rw [hO']; simp
      refine ⟨a, vs, rfl, e, r2.length, O, n, by rw [hO']; exact r2, r', fun o => stp_put ha fun b z => z, fun vs' ds' hv => ?_⟩
      rw [hO'] at hv n
      have d := List.nodup_append.mp n
      have q : RL K (upd H a (.lst vs')) ([a] ++ f2) ((some (.ref a), .ml ds') :: L) ([a] ++ f2) := .cons (fp := [a]) (.ml upd_same (hv.step (stp_put (by simp) fun b z => z))) (r.step (stp_put (by simp) fun b z => z) fun b hb o ho => by
        rw [upd_ne fun z => d.2.2 a (by simp) b hb z.symm]
        exact ho)
      rw [hO']
      exact q
theorem RL.hd {K : PySem.W.Frag} {H : Hp} {O : List Addr} {x : Option V} {d : D} {L : List Pr} {fp : List Addr} (r : RL K H O ((x, .v d) :: L) fp) : ∃ v, x = some v ∧ RD K H O v d := by
  cases r with
  | cons h r => cases h with | v h => exact ⟨_, rfl, h⟩
theorem RL.tl {K : PySem.W.Frag} {H : Hp} {O : List Addr} {p : Pr} {L : List Pr} {fp : List Addr} (r : RL K H O (p :: L) fp) : ∃ fp', RL K H O L fp' := by
  cases r with
  | cons h r => exact ⟨_, r⟩
theorem RDs.mem {K : PySem.W.Frag} {H : Hp} {O : List Addr} {vs : List V} {ds : List D} {i : Nat} {d : D} (r : RDs K H O vs ds) (e : ds[i]? = some d) : ∃ v, vs[i]? = some v ∧ RD K H O v d := r.get e
theorem m_append : MtR X "list.append" (fun x vs H Q => rB X.K appendB (x :: vs) H Q) := mtR_of mt_append fun x vs H Q h => by
  obtain ⟨L, ms, R, l, rs, hb, hQ⟩ := h
  unfold appendB at hb
  split at hb
  · rename_i ds e
    obtain ⟨y, rfl⟩ := one_of (Nat.succ.inj l)
    obtain ⟨d, ⟨z, hr⟩, rs1⟩ := RS.asD (RS.swap rs) hb
    obtain ⟨a, ws, e1, hH, hl, O, n, r1, r2, st, put⟩ := RS.ml2 rs1.swap
    cases e1
    obtain ⟨_, q⟩ := r2.tl
    obtain ⟨v, e2, h2⟩ := q.hd
    cases e2
    exact ⟨a, ws, y, rfl, rfl, hH, by rw [hl]; exact z, hQ _ _ _ _ hr (RS.val ⟨O, n, put _ _ (r1.append (.cons h2 .nil))⟩ fun _ => .non)⟩
  · exact hb.elim
def popB : BM := fun ms R => match ms with
  | [.ml ds] => ∃ d, ds[ds.length - 1]? = some d ∧ R (.v d) [.ml ds.dropLast]
  | _ => False
theorem m_pop : MtR X "list.pop" (fun x vs H Q => rB X.K popB (x :: vs) H Q) := mtR_of mt_pop fun x vs H Q h => by
  obtain ⟨L, ms, R, l, rs, hb, hQ⟩ := h
  unfold popB at hb
  split at hb
  · rename_i ds
    obtain ⟨d, e, hr⟩ := hb
    have e0 : vs = [] := by cases vs with | nil => rfl | cons _ _ => cases l
    subst e0
    obtain ⟨a, ws, e1, hH, hl, O, n, r1, r2, st, put⟩ := RS.ml2 rs
    cases e1
    obtain ⟨v, hv, rv⟩ := r1.get e
    exact ⟨a, ws, v, rfl, rfl, hH, by rw [hl]; exact hv, hQ _ _ _ _ hr (RL.sub1 n ⟨v, rfl, rv.step (st _)⟩ (put _ _ r1.dropLast))⟩
  · exact hb.elim
/-- xs[i] = e -/
def setLB : BM := fun ms R => match ms with
  | [.ml ds, .v (.int k), e] => asD e fun d => ∃ j, ixN ds.length k = some j ∧ R (.v .non) [.ml (ds.set j d), .v (.int k), .v d]
  | _ => False
theorem s_setL : PSet X (setR X.K setLB) := by
  intro pins s σ H o i v ov iv u Q I ro ri rv h
  obtain ⟨L, ms, R, l, rs, hb, hQ⟩ := h
  unfold setLB at hb
  split at hb
  · rename_i ds k e
    have rs0 : RS X.K H ((some v, e) :: (some o, .ml ds) :: (some i, .v (.int k)) :: L) := RS.perm ((List.Perm.cons _ (.swap _ _ _)).trans (.swap _ _ _)) rs
    obtain ⟨d, ⟨j, ej, hr⟩, rs1⟩ := RS.asD rs0 hb
    obtain ⟨a, ws, e1, hH, hl, O, n, r1, r2, st, put⟩ := RS.ml2 rs1.swap
    cases e1
    obtain ⟨_, q1⟩ := r2.tl
    obtain ⟨_, q2⟩ := q1.tl
    obtain ⟨v', e2, h2⟩ := q1.hd
    obtain ⟨i', e3, h3⟩ := q2.hd
    cases e2
    cases e3
    cases h3
    refine set_list pins s σ H _ _ _ ov iv u Q I ro ri rv ⟨a, ws, k, j, rfl, rfl, hH, by rw [hl]; exact ej, hQ _ _ .non _ hr ?_⟩
    have q : RS X.K (upd H a (.lst (ws.set j v))) ((some (.ref a), .ml (ds.set j d)) :: (some v, .v d) :: (some (.int k), .v (.int k)) :: L) := ⟨O, n, put _ _ (r1.set j h2)⟩
    have q2 : RS X.K (upd H a (.lst (ws.set j v))) ((some (.ref a), .ml (ds.set j d)) :: (some (.int k), .v (.int k)) :: (some v, .v d) :: L) := RS.perm (List.Perm.cons _ (.swap _ _ _)) q
    exact q2.val fun _ => .non
  · exact hb.elim

/-! ### in place -/
def iaddB : BM := fun ms R => match ms with
  | [.v (.int i), .v (.int j)] => R (.v (.int (i + j))) ms
  | [.v (.str x), .v (.str y)] => x.length + y.length ≤ sizeLine ∧ R (.v (.str (x ++ y))) ms
  | _ => False
theorem ip_add' : PIp X .Add (r2I X.K iaddB) := by
  intro pins s σ H x y v u Q I rx ry h
  obtain ⟨L, ms, R, l, rs, hb, hQ⟩ := h
  unfold iaddB at hb
  split at hb
  · obtain ⟨O, f1, f2, n, h1, h2, r⟩ := RS.two rs
    have e1 := h1.int
    have e2 := h2.int
    cases e1
    cases e2
    exact ip_add pins s σ H _ _ v u Q I rx ry ⟨_, _, rfl, rfl, hQ _ _ _ H hb (rs.int _)⟩
  · obtain ⟨O, f1, f2, n, h1, h2, r⟩ := RS.two rs
    have e1 := h1.str
    have e2 := h2.str
    cases e1
    cases e2
    exact iop_add_str pins s σ H _ _ v u Q I rx ry ⟨_, _, rfl, rfl, hb.1, hQ _ _ _ H hb.2 (rs.str _)⟩
  · exact hb.elim
def isubB : BM := fun ms R => match ms with
  | [.v (.int i), .v (.int j)] => R (.v (.int (i - j))) ms
  | _ => False
theorem ip_sub' : PIp X .Sub (r2I X.K isubB) := by
  intro pins s σ H x y v u Q I rx ry h
  obtain ⟨L, ms, R, l, rs, hb, hQ⟩ := h
  unfold isubB at hb
  split at hb
  · obtain ⟨O, f1, f2, n, h1, h2, r⟩ := RS.two rs
    have e1 := h1.int
    have e2 := h2.int
    cases e1
    cases e2
    exact ip_sub pins s σ H _ _ v u Q I rx ry ⟨_, _, rfl, rfl, hQ _ _ _ H hb (rs.int _)⟩
  · exact hb.elim

/-! ### defs -/
/-- what a def does: its value and the arguments behind it, or what it raises -/
abbrev FM := List M → RMx → XM → Prop
def spOf (K : PySem.W.Frag) (n : Nat) (m : FM) : Sp := fun vs H Q E => vs.length = n ∧ ∃ (G : List Pr) (ms : List M) (R : RMx) (XR : XM), ms.length = n ∧ RS K H ((vs.map some).zip ms ++ G) ∧ m ms R XR ∧
  (∀ r ms' v H', R r ms' → RS K H' ((some v, r) :: ((vs.map some).zip ms' ++ G)) → Q v H') ∧
  (∀ c fs ms' d H', XR (c, fs) ms' → XOk K H' d fs ((vs.map some).zip ms' ++ G) → E c d H')
def callF (m : FM) (as : List Ar) (S : List M) (R : RMx) (XR : XM) : Prop := takeK as S fun ms S1 => m ms (fun r ms' => giveK as ms' S1 fun S2 => R r S2) (fun x ms' => giveK as ms' S1 fun S2 => XR x S2)
theorem callF_eq (m : FM) (as : List Ar) (S : List M) (R : RMx) (XR : XM) : callF m as S R XR = m (takeA as S).1 (fun r ms' => R r (giveA as ms' (takeA as S).2)) (fun x ms' => XR x (giveA as ms' (takeA as S).2)) := by
  unfold callF
  rw [takeK_eq]
  simp only [giveK_eq]
theorem spOf_of {K : PySem.W.Frag} {W : WX} {H : Hp} {σ : L2.St} {S : List M} {as : List Ar} {vs : List V} {G : List Pr} {m : FM} {R : RMx} {XR : XM} {Q : VK} (l : σ.length = S.length) (ok : ArsOk σ as vs) (rs : RS K H ((vs.map some).zip (as.map arM) ++ (G ++ σ.zip S))) (hb : callF m as S R XR)
    (hQ : ∀ m S' v H', σ.length = S'.length → R m S' → RS K H' ((some v, m) :: (G ++ σ.zip S')) → Q v H') (hX : ∀ c fs S' d H', σ.length = S'.length → XR (c, fs) S' → XOk K H' d fs (G ++ σ.zip S') → W c d σ H') : spOf K as.length m vs H Q (WE W σ) := by
  have h := RS.takeA l ok rs
  have tl := takeA_len as S
  rw [callF_eq] at hb
  refine ⟨ok.len, G ++ σ.zip (takeA as S).2, (takeA as S).1, _, _, tl.1, h, hb, fun r ms' v H' hr hs => ?_, fun c fs ms' d H' hx xo => ?_⟩
  · have hs2 : RS K H' ((vs.map some).zip ms' ++ (((some v, r) :: G) ++ σ.zip (takeA as S).2)) := RS.perm (perm_mid _ _ _).symm hs
    exact hQ r _ v H' (l.trans (tl.2.symm.trans (giveA_len _ _ _).symm)) hr (RS.giveA (l.trans tl.2.symm) ok hs2)
  · refine hX c fs _ d H' (l.trans (tl.2.symm.trans (giveA_len _ _ _).symm)) hx (xo.imp fun L1 r => ?_)
    have r2 : RS K H' ((vs.map some).zip ms' ++ ((L1 ++ G) ++ σ.zip (takeA as S).2)) := by rw [List.append_assoc]; exact RS.rot r
    rw [← List.append_assoc]
    exact RS.giveA (l.trans tl.2.symm) ok r2
def fCall (m : FM) (n : Nat) (fs : FOs) : FE := fun S R XR => fs S (fun as S1 => chk (Nat.beq as.length n) (callF m as S1 R XR)) XR
theorem de_call {k : Nat} {f : Addr} {fd : FuncData} {ps : List Str} {n : Nat} {m : FM} {x : Str} {p pos : Pos} {e : Expr} {es : List Expr} {fs : FOs} (F : FnOk X.prog X.w X.K X.mg X.base (L2.CX X.prog X.w) k f fd ps (spOf X.K n m)) (tk : Takes X W) (hr : Room k X.A) (hg : Gl X x) (hm : X.mg x = some (.ref f))
    (hk : PySem.W.keepIn X.K (.ref f) = true) (hb : Binds X.K fd ps []) (ha : DOs X W (e :: es) fs) (hdb : (x == ("__debug__" : Str)) = false := by decide) (he : starEach (e :: es) X.env = (false, eval e X.env) :: starEach es X.env := by rfl) (hpl : (backTo pos (starEach es X.env)).any (·.1) = false := by rfl) :
    DE X W (.Call (.Name x p) (e :: es) [] pos) (fCall m n fs) := ⟨pe_le (pe_callS F hr hg hm hk hb (fun σ => passAt tk σ) ha.pa hdb he hpl) fun σ H Q h => by
  obtain ⟨G, S, R, XR, l, rs, hF, hQ, hX⟩ := h
  refine ⟨G, S, _, XR, l, rs, hF, fun as S1 vs H1 l1 h1 ok1 rs1 => ?_, hX⟩
  have h1 := h1.ok
  have q := spOf_of (W := W) l1 ok1 rs1 h1.2 hQ hX
  rw [Nat.eq_of_beq_eq_true h1.1] at q
  exact q⟩

/-- the arguments behind the body: those that it leaves bound -/
def outs : List Bool → List M → List M
  | [], _ => []
  | _ :: bs, [] => .gone :: outs bs []
  | b :: bs, m :: S => (if b = true then m else .gone) :: outs bs S
theorem outs_len : ∀ (mask : List Bool) (S : List M), (outs mask S).length = mask.length
  | [], _ => rfl
  | _ :: bs, [] => congrArg (· + 1) (outs_len bs [])
  | b :: bs, m :: S => congrArg (· + 1) (outs_len bs S)
theorem RL.outs {K : PySem.W.Frag} {H : Hp} {O : List Addr} : ∀ {mask : List Bool} {vs : List V} {σ : L2.St} {S : List M} {fp : List Addr}, mask.length = vs.length → σ.length = S.length → (∀ i : Nat, mask[i]? = some true → ∃ v, vs[i]? = some v ∧ σ[i]? = some (some v)) → RL K H O (σ.zip S) fp →
    ∃ fp', fp'.Sublist fp ∧ RL K H O ((vs.map some).zip (DM.outs mask S)) fp'
  | [], [], _, _, fp, _, _, _, _ => ⟨[], List.nil_sublist _, .nil⟩
  | [], _ :: _, _, _, _, h, _, _, _ => nomatch h
  | _ :: _, [], _, _, _, h, _, _, _ => nomatch h
  | b :: bs, v :: vs, [], [], fp, h, l, hm, r => by
    obtain ⟨fp', s, q⟩ := RL.outs (mask := bs) (vs := vs) (σ := []) (S := []) (fp := fp) (Nat.succ.inj h) rfl (fun i hi => by
      obtain ⟨v', _, e⟩ := hm (i + 1) (by simpa using hi)
      simp at e) r
    exact ⟨fp', s, .cons (fp := []) (.gone _) q⟩
  | b :: bs, v :: vs, [], _ :: _, fp, h, l, hm, r => nomatch l
  | b :: bs, v :: vs, _ :: _, [], fp, h, l, hm, r => nomatch l
  | b :: bs, v :: vs, x :: σ, m :: S, fp, h, l, hm, r => by
    cases r with
    | cons h1 r1 =>
      rename_i f1 f2
      obtain ⟨fp', s, q⟩ := RL.outs (mask := bs) (vs := vs) (σ := σ) (S := S) (Nat.succ.inj h) (Nat.succ.inj l) (fun i hi => by
        obtain ⟨v', e1, e2⟩ := hm (i + 1) (by simpa using hi)
        exact ⟨v', by simpa using e1, by simpa using e2⟩) r1
      cases b with
      | true =>
        obtain ⟨v', e1, e2⟩ := hm 0 rfl
        cases e1
        cases e2
        exact ⟨f1 ++ fp', s.append_left f1, .cons h1 q⟩
      | false => exact ⟨fp', s.trans (List.sublist_append_right f1 f2), .cons (fp := []) (.gone _) q⟩
theorem RS.outs {K : PySem.W.Frag} {H : Hp} {mask : List Bool} {vs : List V} {σ : L2.St} {S : List M} {G : List Pr} (h : mask.length = vs.length) (l : σ.length = S.length) (hm : ∀ i : Nat, mask[i]? = some true → ∃ v, vs[i]? = some v ∧ σ[i]? = some (some v)) (rs : RS K H (G ++ σ.zip S)) :
    RS K H ((vs.map some).zip (DM.outs mask S) ++ G) := by
  obtain ⟨O, n, r⟩ := rs
  obtain ⟨f1, f2, rfl, r1, r2⟩ := RL.split r
  obtain ⟨fp', s, q⟩ := RL.outs h l hm r2
  have n' : (f1 ++ fp').Nodup := n.sublist (s.append_left f1)
  have sub : ∀ a, a ∈ f1 ++ fp' → a ∈ f1 ++ f2 := fun a ha => (s.append_left f1).subset ha
  exact RS.perm List.perm_append_comm ⟨f1 ++ fp', n', (r1.fewer sub).append (q.fewer sub)⟩
theorem RL.gones {K : PySem.W.Frag} {H : Hp} {O : List Addr} : ∀ n : Nat, RL K H O ((List.replicate n (none : Option V)).zip (List.replicate n M.gone)) []
  | 0 => .nil
  | n + 1 => .cons (fp := []) (.gone _) (RL.gones n)
/-- what the body of a def is to bring about -/
def bodyE (mask : List Bool) (R : RMx) (XR : XM) : EM := ⟨fun S' => R (.v .non) (outs mask S'), fun r S' => R r (outs mask S'), fun _ => False, fun _ => False, fun x S' => XR x (outs mask S')⟩
/-- m is what the body B does: N names, mask the parameters -/
def BodyIs (mask : List Bool) (N : Nat) (B : FS) (m : FM) : Prop := ∀ (ms : List M) (R : RMx) (XR : XM), ms.length = mask.length → m ms R XR → B (bodyE mask R XR) (ms ++ List.replicate (N - mask.length) .gone)
section
variable {P : Program} {w : World} {K : PySem.W.Frag} {mg : Str → Option Value} {base : Heap}
theorem fn_ok {x qual : Str} {st : Stmt} {f : Addr} {fd : FuncData} {N ps : List Str} {k : Nat} {mask : List Bool} {B : FS} {m : FM} (F : Fun K x qual st f fd) (Sc : FnScope N ps (defScope st)) (hmask : mask.length = ps.length)
    (body : ∀ (cdv : Value) (A : Around) (outer : List Env) (s : Shared) (H : Hp) (E : XK), Room k (A.deeper (envOfC qual (defScope st) s.heap.objs.size f cdv)) → Takes (cxOf (L2.CX P w) P w K mg base N qual (defScope st) f cdv A outer s H E) (fun c d _ H => E c d H) →
      PassesOwn (model P w) (A.deeper (envOfC qual (defScope st) s.heap.objs.size f cdv)) (envOfC qual (defScope st) s.heap.objs.size f cdv) (cxOf (L2.CX P w) P w K mg base N qual (defScope st) f cdv A outer s H E).xe →
      DSs (cxOf (L2.CX P w) P w K mg base N qual (defScope st) f cdv A outer s H E) (fun c d _ H => E c d H) mask (defBody st) B)
    (hm : BodyIs mask N.length B m) : FnOk P w K mg base (L2.CX P w) (k + 1) f fd ps (spOf K ps.length m) := by
  have hpl : ps.length ≤ N.length := by have := congrArg List.length Sc.pre; rw [List.length_take] at this; omega
  refine F.okX Sc (fun vs H Q E h => h.1) (fun cdv A outer s H vs Q E hr h => ?_)
  refine ⟨_, (body cdv A outer s H E hr (takes_of rfl rfl rfl rfl) (passes_of rfl)).ps, ?_⟩
  obtain ⟨lv, G, ms, R, XR, lm, rs, hms, hQ, hX⟩ := h
  have lN : N.length - vs.length = N.length - mask.length := by rw [lv, hmask]
  have len0 : (L2.start N vs).length = (ms ++ List.replicate (N.length - mask.length) M.gone).length := by
    unfold L2.start
    rw [List.length_append, List.length_append, List.length_map, List.length_replicate, List.length_replicate, lv, lm, hmask]
  have rs0 : RS K H (G ++ (L2.start N vs).zip (ms ++ List.replicate (N.length - mask.length) M.gone)) := by
    unfold L2.start
    rw [List.zip_append (by rw [List.length_map, lv, lm]), lN]
    obtain ⟨O, n, r⟩ := RS.perm List.perm_append_comm rs
    refine ⟨O, n, ?_⟩
    rw [← List.append_assoc]
    have q := r.append (RL.gones (K := K) (H := H) (O := O) (N.length - mask.length))
    rw [List.append_nil] at q
    exact q
  have hmk : mask.length = vs.length := by rw [hmask, lv]
  have fin : ∀ {σ' : L2.St}, Ag mask (L2.start N vs) σ' → ∀ i : Nat, mask[i]? = some true → ∃ v, vs[i]? = some v ∧ σ'[i]? = some (some v) := fun {σ'} ag i hi => by
    have hi' : i < vs.length := by rw [← hmk]; exact (List.getElem?_eq_some_iff.mp hi).1
    refine ⟨vs[i], List.getElem?_eq_getElem hi', ?_⟩
    rw [ag.same i hi]
    unfold L2.start
    rw [List.getElem?_append_left (by rw [List.length_map]; exact hi'), List.getElem?_map, List.getElem?_eq_getElem hi']
    rfl
  refine ⟨G, _, _, len0, rs0, hm ms R XR (by rw [lm, hmask]) hms, fun S' σ' H' ag l' hn rs' => ?_, fun r S' v σ' H' ag l' hr rs' => ?_, fun _ _ _ _ _ h _ => h.elim, fun _ _ _ _ _ h _ => h.elim, fun c fs S' d σ' H' ag l' hx xo => ?_⟩
  · exact hQ _ _ _ H' hn ((RS.outs hmk l' (fin ag) rs').val fun _ => .non)
  · have q := RS.outs (G := (some v, r) :: G) hmk l' (fin ag) rs'
    exact hQ _ _ _ H' hr (RS.perm (perm_mid _ _ _) q)
  · refine hX c fs _ d H' hx (xo.imp fun L1 r => ?_)
    have r1 : RS K H' ((L1 ++ G) ++ σ'.zip S') := by rw [List.append_assoc]; exact r
    exact RS.rot (RS.outs hmk l' (fin ag) r1)
end
end
end DM

/-! List comprehensions. -/
namespace DM
open PySem PySem.Spec PyProof.Rows
open L2
section
def wipeM (S : List M) : List Nat → List M
  | [] => S
  | i :: is => (wipeM S is).set i .gone
def restM (S : List M) : List Nat → List M → List M
  | [], S' => S'
  | i :: is, S' => restM S is (S'.set i ((wipeM S is)[i]?.getD .gone))
def ownP (σ : L2.St) (S : List M) : List Nat → List Pr
  | [] => []
  | i :: is => ((wipe σ is)[i]?.getD none, (wipeM S is)[i]?.getD .gone) :: ownP σ S is
theorem wipeM_len (S : List M) : ∀ is, (wipeM S is).length = S.length
  | [] => rfl
  | i :: is => by unfold wipeM; rw [List.length_set, wipeM_len S is]
theorem restM_len (S : List M) : ∀ is S', (restM S is S').length = S'.length
  | [], S' => rfl
  | i :: is, S' => by unfold restM; rw [restM_len S is, List.length_set]
variable {K : PySem.W.Frag} {H : Hp}
theorem own_take {σ : L2.St} {S : List M} (l : σ.length = S.length) : ∀ {is : List Nat} {G : List Pr}, RS K H (G ++ σ.zip S) → RS K H ((ownP σ S is ++ G) ++ (wipe σ is).zip (wipeM S is))
  | [], G, h => h
  | i :: is, G, h => by
    have ih := own_take l (is := is) h
    have l' : (wipe σ is).length = (wipeM S is).length := by rw [wipe_length, wipeM_len]; exact l
    show RS K H (((((wipe σ is)[i]?.getD none, (wipeM S is)[i]?.getD .gone) :: ownP σ S is) ++ G) ++ ((wipe σ is).set i none).zip ((wipeM S is).set i .gone))
    by_cases hi : i < (wipeM S is).length
    · obtain ⟨x, e1, r⟩ := RS.take ih l' (List.getElem?_eq_getElem hi)
      have r2 := RS.put' (i := i) (r.add0 none |> fun q => (show RS K H ((none, .gone) :: (((x, (wipeM S is)[i]) :: (ownP σ S is ++ G)) ++ (wipe σ is).zip ((wipeM S is).set i .gone))) from q)) (by rw [List.length_set]; exact l')
      rw [set_set'] at r2
      rw [e1, List.getElem?_eq_getElem hi]
      exact r2
    · rw [List.set_eq_of_length_le (by omega), List.set_eq_of_length_le (by omega), List.getElem?_eq_none_iff.mpr (by omega), List.getElem?_eq_none_iff.mpr (by omega)]
      exact ih.add0 none
theorem own_back {σ : L2.St} {S : List M} (l : σ.length = S.length) : ∀ {is : List Nat} {G : List Pr} {S' : List M}, σ.length = S'.length → RS K H ((ownP σ S is ++ G) ++ (wipe σ is).zip S') → RS K H (G ++ σ.zip (restM S is S'))
  | [], G, S', _, h => h
  | i :: is, G, S', l2, h => by
    show RS K H (G ++ σ.zip (restM S is (S'.set i ((wipeM S is)[i]?.getD .gone))))
    refine own_back l (is := is) (by rw [List.length_set]; exact l2) ?_
    have h : RS K H (((((wipe σ is)[i]?.getD none, (wipeM S is)[i]?.getD .gone) :: ownP σ S is) ++ G) ++ ((wipe σ is).set i none).zip S') := h
    have l' : ((wipe σ is).set i none).length = S'.length := by rw [List.length_set, wipe_length]; exact l2
    have r := RS.put' (i := i) (G := ownP σ S is ++ G) h l'
    rw [set_set'] at r
    by_cases hi : i < (wipe σ is).length
    · rw [List.getElem?_eq_getElem hi] at r
      have e : (wipe σ is).set i (((some (wipe σ is)[i] : Option (Option V))).getD none) = wipe σ is := set_get (List.getElem?_eq_getElem hi)
      rw [e] at r
      exact r
    · have e1 : ∀ x, (wipe σ is).set i x = wipe σ is := fun x => List.set_eq_of_length_le (by omega)
      rw [e1] at r
      exact r
theorem wipe_get (σ : L2.St) : ∀ (is : List Nat) (j : Nat), (wipe σ is)[j]? = if j ∈ is then (σ[j]?).map (fun _ => none) else σ[j]?
  | [], j => by simp [wipe]
  | i :: is, j => by
    unfold wipe
    by_cases e : i = j
    · subst e
      rw [if_pos List.mem_cons_self]
      by_cases hi : i < (wipe σ is).length
      · have hi' : i < σ.length := by rw [wipe_length] at hi; exact hi
        rw [List.getElem?_set_self hi, List.getElem?_eq_getElem hi']
        rfl
      · have hi' : ¬ i < σ.length := by rw [wipe_length] at hi; exact hi
        rw [List.getElem?_eq_none_iff.mpr (by rw [List.length_set]; omega), List.getElem?_eq_none_iff.mpr (show σ.length ≤ i by omega)]
        rfl
    · rw [List.getElem?_set_ne e, wipe_get σ is j]
      have : (j ∈ i :: is) ↔ j ∈ is := by simp [Ne.symm e]
      by_cases h : j ∈ is
      · rw [if_pos h, if_pos (this.mpr h)]
      · rw [if_neg h, if_neg fun z => h (this.mp z)]
theorem wipe_eq {σ σ2 : L2.St} {is : List Nat} (h : ∀ j, j ∉ is → σ2[j]? = σ[j]?) (l : σ2.length = σ.length) : wipe σ2 is = wipe σ is := by
  apply List.ext_getElem?
  intro j
  rw [wipe_get, wipe_get]
  by_cases e : j ∈ is
  · rw [if_pos e, if_pos e]
    by_cases hj : j < σ.length
    · rw [List.getElem?_eq_getElem hj, List.getElem?_eq_getElem (by omega)]
      rfl
    · rw [List.getElem?_eq_none_iff.mpr (by omega), List.getElem?_eq_none_iff.mpr (by omega)]
  · rw [if_neg e, if_neg e]
    exact h j e
theorem wipe_wipe (σ : L2.St) (is : List Nat) : wipe (wipe σ is) is = wipe σ is := wipe_eq (fun j hj => by rw [wipe_get, if_neg hj]) (wipe_length _ _)
/-- all slots but the block's own are left -/
def maskOk (n : Nat) (own : List Nat) (mask : List Bool) : Bool := (List.range n).all fun i => own.contains i || mask[i]? == some true
theorem wipe_ag {n : Nat} {own : List Nat} {mask : List Bool} {σ σ2 : L2.St} (hm : maskOk n own mask = true) (ln : σ.length = n) (ag : Ag mask (wipe σ own) σ2) : wipe σ2 own = wipe σ own := by
  rw [← wipe_wipe σ own]
  refine wipe_eq (fun j hj => ?_) ag.len
  by_cases hn : j < n
  · have h := List.all_eq_true.mp hm j (List.mem_range.mpr hn)
    rw [Bool.or_eq_true] at h
    rcases h with h | h
    · exact absurd (by simpa using h) hj
    · exact ag.same j (by simpa using h)
  · rw [List.getElem?_eq_none_iff.mpr (by rw [ag.len, wipe_length]; omega), List.getElem?_eq_none_iff.mpr (by rw [wipe_length]; omega)]

theorem perm_rot {α : Type} (A B C : List α) : (A ++ (B ++ C)).Perm (B ++ (A ++ C)) := by
  rw [← List.append_assoc, ← List.append_assoc]
  exact List.perm_append_comm.append_right C
abbrev W0 : WX := fun _ _ _ _ => False
def X0 : XM := fun _ _ => False
def lcL (g : FG) (tt : FT) (te : FE) (own : List Nat) (Kf : List D → List M → Prop) : List D → List D → List M → Prop
  | [], acc, S => Kf acc S
  | d :: ds, acc, S => g (.v d) S (fun S1 => tt S1 (fun b S2 => iteP b (te S2 (fun y S3 => asD y fun e => acc.length < sizeLine ∧ lcL g tt te own Kf ds (acc ++ [e]) (wipeM S3 own)) X0) (lcL g tt te own Kf ds acc (wipeM S2 own))) X0) X0
structure LcL (g : FG) (tt : FT) (te : FE) (own : List Nat) (Kf : List D → List M → Prop) (ds acc : List D) (S : List M) : Prop where
  go : lcL g tt te own Kf ds acc S
def fLc (fi : FI) (g : FG) (tt : FT) (te : FE) (own : List Nat) : FE := fun S R XR => fi S (fun items S0 => LcL g tt te own (fun acc S' => R (.ml acc) (restM S0 own S')) items [] (wipeM S0 own)) XR
def tTrue : FT := fun S R _ => R true S
structure DTs (X : Cx) (W : WX) (ifs : List Expr) (F : FT) : Prop where
  pts : PTs X ifs (tDT X.K W F)
variable {X : Cx} {W : WX}
theorem dts_nil : DTs X W [] tTrue := ⟨⟨fun pins s σ H Q I h => (pts_nil (X := X)).run pins s σ H Q I (by
  obtain ⟨G, S, R, XR, l, rs, hF, hQ, hX⟩ := h
  exact hQ true S H l hF rs)⟩⟩
theorem dts_one {c : Expr} {F : FT} (h : DT X W c F) : DTs X W [c] F := ⟨pts_one h.pt⟩
theorem xok0 {K : PySem.W.Frag} {σ : L2.St} {G : List Pr} {W : WX} : ∀ (c : Value) (fs : Option (List (Str × D))) (S' : List M) (d : Option Addr) (H' : Hp), σ.length = S'.length → X0 (c, fs) S' → XOk K H' d fs (G ++ σ.zip S') → W c d σ H' := fun _ _ _ _ _ _ h _ => h.elim
theorem lc_read {K : PySem.W.Frag} {W : WX} {fi : FI} {g : FG} {tt : FT} {te : FE} {own : List Nat} {mask : List Bool} {σ : L2.St} {H : Hp} {Q : VK} (hm : maskOk σ.length own mask = true) (h : tD K W (fLc fi g tt te own) σ H Q) :
    tLc (tDI K W fi) (tDG K W0 mask g) (tDT K W0 tt) (tD K W0 te) own σ H Q := by
  obtain ⟨G, S, R, XR, l, rs, hF, hQ, hX⟩ := h
  refine ⟨G, S, _, XR, l, rs, hF, fun items S0 J P H1 l0 h0 sv rs0 => fun Da hD => ?_, hX⟩
  have a1 : RS K (upd H1 Da (.lst [])) ((some (.ref Da), .ml []) :: (P ++ (G ++ σ.zip S0))) := by
    obtain ⟨O, n, r⟩ := rs0
    exact RS.newLst (vs := []) (ds := []) ⟨O, n, .nil, r⟩ hD
  have a2 : RS K (upd H1 Da (.lst [])) ((ownP σ S0 own ++ ((some (.ref Da), .ml []) :: (P ++ G))) ++ (wipe σ own).zip (wipeM S0 own)) := own_take l0 (by
    rw [List.cons_append, List.append_assoc]; exact a1)
  refine ⟨fun i m H' => ∃ S' acc, σ.length = S'.length ∧ RS K H' ((ownP σ S0 own ++ ((some (.ref Da), .ml acc) :: (P ++ G))) ++ (wipe σ own).zip S') ∧ i + m = items.length ∧ lcL g tt te own (fun acc S' => R (.ml acc) (restM S0 own S')) (items.drop i) acc S',
    ⟨items.length, _, [], by rw [wipeM_len]; exact l0, a2, Nat.zero_add _, h0.go⟩, fun i m H2 hW => ?_⟩
  obtain ⟨S1, acc, l1, rs1, em, h1⟩ := hW
  -- P ahead
  have toP : ∀ {H' : Hp} {acc : List D} {S' : List M} {σ' : L2.St}, RS K H' ((ownP σ S0 own ++ ((some (.ref Da), .ml acc) :: (P ++ G))) ++ σ'.zip S') → RS K H' (P ++ (ownP σ S0 own ++ ((some (.ref Da), .ml acc) :: (G ++ σ'.zip S')))) := fun {H' acc S' σ'} r => by
    refine RS.perm ?_ r
    have e1 : ((ownP σ S0 own ++ ((some (V.ref Da), M.ml acc) :: (P ++ G))) ++ σ'.zip S') = (ownP σ S0 own ++ [(some (V.ref Da), M.ml acc)]) ++ (P ++ (G ++ σ'.zip S')) := by simp
    have e2 : (P ++ (ownP σ S0 own ++ ((some (V.ref Da), M.ml acc) :: (G ++ σ'.zip S')))) = P ++ ((ownP σ S0 own ++ [(some (V.ref Da), M.ml acc)]) ++ (G ++ σ'.zip S')) := by simp
    rw [e1, e2]
    exact perm_rot _ _ _
  obtain ⟨s1, s2⟩ := sv i H2 _ (toP rs1)
  cases e : items[i]? with
  | none =>
    have hl : items.length ≤ i := List.getElem?_eq_none_iff.mp e
    rw [List.drop_eq_nil_of_le hl] at h1
    refine .inl ⟨s2 hl, hQ _ _ _ H2 (by rw [restM_len]; exact l1) h1 ?_⟩
    have b1 := own_back l0 l1 rs1
    have b2 : RS K H2 ((some (.ref Da), .ml acc) :: (P ++ (G ++ σ.zip (restM S0 own S1)))) := by
      rw [List.cons_append, List.append_assoc] at b1; exact b1
    have b3 : RS K H2 (P ++ ((some (.ref Da), .ml acc) :: (G ++ σ.zip (restM S0 own S1)))) := RS.perm (perm_mid _ _ _).symm b2
    exact RS.dropL b3
  | some d =>
    have hl : i < items.length := (List.getElem?_eq_some_iff.mp e).1
    rw [List.drop_eq_getElem_cons hl, (List.getElem?_eq_some_iff.mp e).2] at h1
    obtain ⟨g1, g2⟩ := s1 d e
    refine .inr ⟨g1, fun H' => ∃ S' acc, σ.length = S'.length ∧ RS K H' ((ownP σ S0 own ++ ((some (.ref Da), .ml acc) :: (P ++ G))) ++ (wipe σ own).zip S') ∧ lcL g tt te own (fun acc S' => R (.ml acc) (restM S0 own S')) (items.drop (i + 1)) acc S', fun H' ⟨S', acc, a, b, c⟩ => ⟨m - 1, by omega, S', acc, a, b, by omega, c⟩, fun x H3 hy => ?_⟩
    have c1 := g2 x H3 hy
    have c2 : RS K H3 ((some x, .v d) :: ((ownP σ S0 own ++ ((some (.ref Da), .ml acc) :: (P ++ G))) ++ (wipe σ own).zip S1)) := by
      refine RS.perm (List.Perm.cons _ ?_) c1
      have e1 : ((ownP σ S0 own ++ ((some (V.ref Da), M.ml acc) :: (P ++ G))) ++ (wipe σ own).zip S1) = (ownP σ S0 own ++ [(some (V.ref Da), M.ml acc)]) ++ (P ++ (G ++ (wipe σ own).zip S1)) := by simp
      have e2 : (P ++ (ownP σ S0 own ++ ((some (V.ref Da), M.ml acc) :: (G ++ (wipe σ own).zip S1)))) = P ++ ((ownP σ S0 own ++ [(some (V.ref Da), M.ml acc)]) ++ (G ++ (wipe σ own).zip S1)) := by simp
      rw [e1, e2]
      exact perm_rot _ _ _
    refine ⟨_, S1, .v d, _, X0, by rw [wipe_length]; exact l1, c2, h1, fun S2 σ2 H4 ag2 l2 h2 rs2 => ?_, fun _ _ _ _ _ _ _ _ h _ => h.elim⟩
    have wσ := wipe_ag hm rfl ag2
    have lσ : σ2.length = σ.length := ag2.len.trans (wipe_length _ _)
    refine ⟨wσ, ?_⟩
    refine ⟨_, S2, _, X0, l2, rs2, h2, fun b S3 H5 l3 h3 rs3 => ?_, xok0⟩
    -- the own slots are forgotten
    have wipeR : ∀ {H' : Hp} {acc' : List D} {S' : List M}, σ2.length = S'.length → RS K H' ((ownP σ S0 own ++ ((some (.ref Da), .ml acc') :: (P ++ G))) ++ σ2.zip S') → RS K H' ((ownP σ S0 own ++ ((some (.ref Da), .ml acc') :: (P ++ G))) ++ (wipe σ own).zip (wipeM S' own)) := fun {H' acc' S'} l' r => by
      have q := own_take l' (is := own) r
      rw [wσ, List.append_assoc] at q
      exact RS.dropL q
    cases b with
    | true =>
      dsimp only
      rw [iteP_t] at h3; rw [if_pos rfl]
      refine ⟨_, S3, _, X0, l3, rs3, h3, fun y S4 v H6 l4 h4 rs4 => ?_, xok0⟩
      -- the item comes onto the list
      obtain ⟨e, ⟨z, hk⟩, rs5⟩ := RS.asD rs4 h4
      have rs6 : RS K H6 ((some (.ref Da), .ml acc) :: (some v, .v e) :: (ownP σ S0 own ++ ((P ++ G) ++ σ2.zip S4))) := by
        refine RS.perm ?_ rs5
        refine ((List.Perm.cons _ ?_).trans (.swap _ _ _))
        have e1 : ∀ q : Pr, ((ownP σ S0 own ++ (q :: (P ++ G))) ++ σ2.zip S4) = ownP σ S0 own ++ (q :: ((P ++ G) ++ σ2.zip S4)) := fun q => by simp
        rw [e1]
        exact perm_mid _ _ _
      obtain ⟨a, ws, e1, hH, hl', O, n, r1, r2, st, put⟩ := RS.ml2 rs6
      cases e1
      obtain ⟨_, q⟩ := r2.tl
      obtain ⟨v', e2, h2'⟩ := q.hd
      cases e2
      have rs7 : RS K (upd H6 Da (.lst (ws ++ [v]))) ((some (.ref Da), .ml (acc ++ [e])) :: (some v, .v e) :: (ownP σ S0 own ++ ((P ++ G) ++ σ2.zip S4))) := ⟨O, n, put _ _ (r1.append (.cons h2' .nil))⟩
      refine ⟨ws, hH, by rw [hl']; exact z, wipeM S4 own, acc ++ [e], by rw [wipeM_len, ← l4, lσ], ?_, hk⟩
      refine wipeR l4 ?_
      refine RS.perm ?_ rs7.swap.drop
      have e1 : ∀ q : Pr, ((ownP σ S0 own ++ (q :: (P ++ G))) ++ σ2.zip S4) = ownP σ S0 own ++ (q :: ((P ++ G) ++ σ2.zip S4)) := fun q => by simp
      rw [e1]
      exact (perm_mid _ _ _).symm
    | false =>
      dsimp only
      rw [iteP_f] at h3; rw [if_neg (by decide)]
      exact ⟨wipeM S3 own, acc, by rw [wipeM_len, ← l3, lσ], wipeR l3 rs3, h3⟩
theorem de_lc {elt tg iter : Expr} {ifs : List Expr} {scope : Scope} {own : List (Str × Nat)} {pos : Pos} {fi : FI} {g : FG} {tt : FT} {te : FE} {mask : List Bool} (hc : X.calm = true) (hN : X.N.Nodup) (hi : DI X W tg iter fi) (ok : BlkOk X.N X.env.scope scope own)
    (hg : ∀ (s : Shared) (H : Hp) (C : Addr) (cl : List (Str × Addr)) (fp : List Addr), DG (X.blk s H scope (compEnvC scope cl C X.env) fp) W0 mask tg g) (ht : ∀ (s : Shared) (H : Hp) (C : Addr) (cl : List (Str × Addr)) (fp : List Addr), DTs (X.blk s H scope (compEnvC scope cl C X.env) fp) W0 ifs tt)
    (he : ∀ (s : Shared) (H : Hp) (C : Addr) (cl : List (Str × Addr)) (fp : List Addr), DE (X.blk s H scope (compEnvC scope cl C X.env) fp) W0 elt te) (hmk : maskOk X.N.length (own.map (·.2)) mask = true := by rfl) (hs : ∀ x, foldedSetIterable iter X.env x = pure x := by intro _; rfl) :
    DE X W (.ListComp elt [⟨tg, iter, ifs, 0⟩] scope pos) (fLc fi g tt te (own.map (·.2))) :=
  ⟨⟨fun pins s σ H Q I h => (pe_lc (wi := tDI X.K W fi) (g := tDG X.K W0 mask g) (tt := tDT X.K W0 tt) (te := tD X.K W0 te) hc hN hi.pi ok (fun s H C cl fp => (hg s H C cl fp).pg) (fun s H C cl fp => (ht s H C cl fp).pts) (fun s H C cl fp => (he s H C cl fp).pe) hs).run pins s σ H Q I (lc_read (by rw [I.len]; exact hmk) h)⟩⟩
/-- name = [..] -/
theorem ds_setLc {i : Nat} {y : Str} {py : Pos} {elt tg iter : Expr} {ifs : List Expr} {scope : Scope} {own : List (Str × Nat)} {pos spos : Pos} {fi : FI} {g : FG} {tt : FT} {te : FE} {mask m0 : List Bool} (hc : X.calm = true) (hN : X.N.Nodup) (hy : X.N[i]? = some y) (hyl : X.env.scope.names.lookup y = some .local)
    (hsw : swapsWith (.ListComp elt [⟨tg, iter, ifs, 0⟩] scope pos) (some (.Name y py)) spos.line X.env = pure true) (hi : DI X W tg iter fi) (ok : BlkOk X.N X.env.scope scope own)
    (hg : ∀ (s : Shared) (H : Hp) (C : Addr) (cl : List (Str × Addr)) (fp : List Addr), DG (X.blk s H scope (compEnvC scope cl C X.env) fp) W0 mask tg g) (ht : ∀ (s : Shared) (H : Hp) (C : Addr) (cl : List (Str × Addr)) (fp : List Addr), DTs (X.blk s H scope (compEnvC scope cl C X.env) fp) W0 ifs tt)
    (he : ∀ (s : Shared) (H : Hp) (C : Addr) (cl : List (Str × Addr)) (fp : List Addr), DE (X.blk s H scope (compEnvC scope cl C X.env) fp) W0 elt te) (hmk : maskOk X.N.length (own.map (·.2)) mask = true := by rfl) (hm : m0[i]? ≠ some true := by decide) (hs : ∀ x, foldedSetIterable iter X.env x = pure x := by intro _; rfl) :
    DS X W m0 (.Assign [.Name y py] (.ListComp elt [⟨tg, iter, ifs, 0⟩] scope pos) spos) (sSet i (fLc fi g tt te (own.map (·.2)))) :=
  ⟨⟨fun pins s σ H D I h => (ps_setLc (wi := tDI X.K W fi) (g := tDG X.K W0 mask g) (tt := tDT X.K W0 tt) (te := tD X.K W0 te) hc hN hy hyl hsw hi.pi ok (fun s H C cl fp => (hg s H C cl fp).pg) (fun s H C cl fp => (ht s H C cl fp).pts) (fun s H C cl fp => (he s H C cl fp).pe) hs).run pins s σ H D I (by
    obtain ⟨G, S, E, l, rs, hF, nx, rt, bk, ct, ex⟩ := h
    refine lc_read (W := W) (mask := mask) (by rw [I.len]; exact hmk) ?_
    exact ⟨G, S, _, E.ex, l, rs, hF, fun m S' v H' l' hmm rs' => nx _ _ H' (Ag.set _ hm) (by rw [List.length_set, List.length_set]; exact l') (Eq.mp (setK_eq _ _ _ _) hmm) (rs'.put' l'), fun c fs S' d H' l' hx xo => ex c fs S' d σ H' (Ag.refl σ) l' hx xo⟩)⟩⟩
end
end DM

/-! Ends, and loops by a word. -/
namespace DM
open PySem PySem.Spec PyProof.Rows
open L2
theorem fn_false {P : Program} {w : World} {K : PySem.W.Frag} {mg : Str → Option Value} {base : Heap} {CX : CXT} {k : Nat} {f : Addr} {fd : FuncData} {ps : List Str} {m : FM} (h : ∀ ms R XR, ¬ m ms R XR) : FnOk P w K mg base CX k f fd ps (spOf K ps.length m) :=
  ⟨fun _ _ _ _ z => z.1, fun _ _ _ _ _ _ _ _ _ _ _ _ _ z => by
    obtain ⟨_, G, ms, R, XR, _, _, q, _⟩ := z
    exact (h ms R XR q).elim⟩
theorem cx_false {P : Program} {w : World} {H : Hp} {s : Shared} {e : Value} {s' : Shared} (h : L2.CX P w [] H s (fun _ _ _ => False) e s') : False := by
  obtain ⟨_, _, _, _, _, _, _, _, _, _, _, _, z⟩ := h
  exact z.elim
theorem rds_ints {K : PySem.W.Frag} {H : Hp} {O : List Addr} : ∀ ns : List Int, RDs K H O (ns.map V.int) (ns.map D.int)
  | [] => .nil
  | n :: ns => .cons (.int n) (rds_ints ns)
/-- the law's call: the script is a list of ints -/
theorem start_law {K : PySem.W.Frag} {H : Hp} {a : Addr} {ns : List Int} {m : FM} (hS : SqL K H a (ns.map V.int)) (h : ∀ R : RMx, (∀ ms', R (.v (.bl true)) ms') → m [.v (.lst (ns.map D.int))] R fun _ _ => False) : spOf K 1 m [.ref a] H (fun v _ => v = .bl true) fun _ _ _ => False := by
  refine ⟨rfl, [], [.v (.lst (ns.map D.int))], fun r _ => r = .v (.bl true), fun _ _ => False, rfl, ?_, h _ fun _ => rfl, fun r ms' v H' hr rs => ?_, fun _ _ _ _ _ z _ => z.elim⟩
  · refine ⟨[], List.nodup_nil, .cons (fp := []) (.v (.lst ?_ (rds_ints ns))) .nil⟩
    exact hS.imp (fun q => ⟨q, List.not_mem_nil⟩) id
  · subst hr
    obtain ⟨O, f1, n, h1, r⟩ := RS.one rs
    have e := h1.bl
    exact Option.some.inj e
theorem forL_by {g : FG} {b : FS} {E : EM} (P : Nat → List M → Prop) {ds : List D} (h : ∀ (i : Nat) (d : D) (S : List M) (K : List M → Prop), ds[i]? = some d → P i S → (∀ S', P (i + 1) S' → K S') → g (.v d) S (fun S1 => b { E with nx := K, ct := K, bk := E.nx } S1) E.ex)
    (he : ∀ S, P ds.length S → E.nx S) : ∀ S, P 0 S → ForL g b E ds S := by
  have go : ∀ (n i : Nat), n = ds.length - i → i ≤ ds.length → ∀ S, P i S → forL g b E (ds.drop i) S := by
    intro n
    induction n with
    | zero =>
      intro i hn hi S hP
      have e : i = ds.length := by omega
      subst e
      rw [List.drop_length]
      exact he S hP
    | succ n ih =>
      intro i hn hi S hP
      have hl : i < ds.length := by omega
      rw [List.drop_eq_getElem_cons hl]
      exact h i ds[i] S _ (List.getElem?_eq_getElem hl) hP fun S' hP' => ih (i + 1) (by omega) (by omega) S' hP'
  intro S hP
  have q := go _ 0 rfl (Nat.zero_le _) S hP
  rw [List.drop_zero] at q
  exact ⟨q⟩
theorem lcL_by {g : FG} {tt : FT} {te : FE} {own : List Nat} {Kf : List D → List M → Prop} (P : Nat → List D → List M → Prop) {ds : List D}
    (h : ∀ (i : Nat) (d : D) (acc : List D) (S : List M) (K : List D → List M → Prop), ds[i]? = some d → P i acc S → (∀ acc' S', P (i + 1) acc' S' → K acc' S') →
      g (.v d) S (fun S1 => tt S1 (fun b S2 => iteP b (te S2 (fun y S3 => asD y fun e => acc.length < sizeLine ∧ K (acc ++ [e]) (wipeM S3 own)) X0) (K acc (wipeM S2 own))) X0) X0)
    (he : ∀ acc S, P ds.length acc S → Kf acc S) : ∀ acc S, P 0 acc S → LcL g tt te own Kf ds acc S := by
  have go : ∀ (n i : Nat), n = ds.length - i → i ≤ ds.length → ∀ acc S, P i acc S → lcL g tt te own Kf (ds.drop i) acc S := by
    intro n
    induction n with
    | zero =>
      intro i hn hi acc S hP
      have e : i = ds.length := by omega
      subst e
      rw [List.drop_length]
      exact he acc S hP
    | succ n ih =>
      intro i hn hi acc S hP
      have hl : i < ds.length := by omega
      rw [List.drop_eq_getElem_cons hl]
      exact h i ds[i] acc S (fun acc' S' => lcL g tt te own Kf (ds.drop (i + 1)) acc' S') (List.getElem?_eq_getElem hl) hP fun acc' S' hP' => ih (i + 1) (by omega) (by omega) acc' S' hP'
  intro acc S hP
  have q := go _ 0 rfl (Nat.zero_le _) acc S hP
  rw [List.drop_zero] at q
  exact ⟨q⟩
theorem rngD_len (lo : Int) (n : Nat) (c : Int) : (rngD lo n c).length = n := by simp [rngD]
theorem map_get {α : Type} {f : α → D} {xs : List α} {i : Nat} {d : D} (h : (xs.map f)[i]? = some d) : ∃ x, xs[i]? = some x ∧ d = f x := by
  rw [List.getElem?_map] at h
  cases e : xs[i]? with
  | none => rw [e] at h; cases h
  | some x => rw [e] at h; exact ⟨x, rfl, (Option.some.inj h).symm⟩
theorem wh_of {c : FT} {b : FS} {E : EM} {S : List M} (P : List M → Prop) (μ : List M → Nat) (hP : P S) (h : ∀ S, P S → ∀ n, (∀ S', P S' → μ S' < μ S → whN c b E n S') → whN c b E (n + 1) S) : ∃ n, whN c b E n S :=
  ⟨μ S + 1, wh_by P μ h _ S hP (Nat.lt_succ_self _)⟩
theorem take_succ' {α : Type} {l : List α} {i : Nat} {x : α} (h : l[i]? = some x) : l.take (i + 1) = l.take i ++ [x] := by
  rw [List.take_add_one, h]; rfl
/-! ### isinstance against a built-in class -/
def isaNone (m : M) (k : Bool → Prop) : Prop := match m with
  | .v .non => k false
  | _ => False
def isaB (t : String → Bool) (m : M) (k : Bool → Prop) : Prop := match m with
  | .v .non => k (t "NoneType")
  | .v (.bl _) => k (t "bool")
  | .v (.int _) => k (t "int")
  | .v (.str _) => k (t "str")
  | .v (.tup _) => k (t "tuple")
  | .v (.lst _) => k (t "list")
  | .v (.dK _ _) => k (t "dict")
  | .v (.dT _ _) => k (t "dict")
  | .ml _ => k (t "list")
  | .mk _ _ => k (t "dict")
  | .mt _ _ => k (t "dict")
  | _ => False
def isaBool (m : M) (k : Bool → Prop) : Prop := match m with
  | .v .non => k false
  | .v (.bl _) => k true
  | .v (.int _) => k false
  | .v (.str _) => k false
  | .v (.tup _) => k false
  | .v (.lst _) => k false
  | .v (.dK _ _) => k false
  | .v (.dT _ _) => k false
  | .ml _ => k false
  | .mk _ _ => k false
  | .mt _ _ => k false
  | _ => False
def isaInt (m : M) (k : Bool → Prop) : Prop := match m with
  | .v .non => k false
  | .v (.bl _) => k true
  | .v (.int _) => k true
  | .v (.str _) => k false
  | .v (.tup _) => k false
  | .v (.lst _) => k false
  | .v (.dK _ _) => k false
  | .v (.dT _ _) => k false
  | .ml _ => k false
  | .mk _ _ => k false
  | .mt _ _ => k false
  | _ => False
def isaStr (m : M) (k : Bool → Prop) : Prop := match m with
  | .v .non => k false
  | .v (.bl _) => k false
  | .v (.int _) => k false
  | .v (.str _) => k true
  | .v (.tup _) => k false
  | .v (.lst _) => k false
  | .v (.dK _ _) => k false
  | .v (.dT _ _) => k false
  | .ml _ => k false
  | .mk _ _ => k false
  | .mt _ _ => k false
  | _ => False
def isaList (m : M) (k : Bool → Prop) : Prop := match m with
  | .v .non => k false
  | .v (.bl _) => k false
  | .v (.int _) => k false
  | .v (.str _) => k false
  | .v (.tup _) => k false
  | .v (.lst _) => k true
  | .v (.dK _ _) => k false
  | .v (.dT _ _) => k false
  | .ml _ => k true
  | .mk _ _ => k false
  | .mt _ _ => k false
  | _ => False
def isaTuple (m : M) (k : Bool → Prop) : Prop := match m with
  | .v .non => k false
  | .v (.bl _) => k false
  | .v (.int _) => k false
  | .v (.str _) => k false
  | .v (.tup _) => k true
  | .v (.lst _) => k false
  | .v (.dK _ _) => k false
  | .v (.dT _ _) => k false
  | .ml _ => k false
  | .mk _ _ => k false
  | .mt _ _ => k false
  | _ => False
structure IsA (T : String) (f : M → (Bool → Prop) → Prop) : Prop where
  ok : ∀ (m : M) (k : Bool → Prop), f m k → ∃ U b, tyM m = some U ∧ kitB U T = some b ∧ k b
theorem isa_of {T : String} {f : M → (Bool → Prop) → Prop} {t : String → Bool} (h : ∀ m k, f m k → isaB t m k) (h1 : kitB "NoneType" T = some (t "NoneType")) (h2 : kitB "bool" T = some (t "bool")) (h3 : kitB "int" T = some (t "int")) (h4 : kitB "str" T = some (t "str"))
    (h5 : kitB "tuple" T = some (t "tuple")) (h6 : kitB "list" T = some (t "list")) (h7 : kitB "dict" T = some (t "dict")) : IsA T f := ⟨fun m k z => by
  have z := h m k z
  unfold isaB at z
  split at z
  · exact ⟨_, _, rfl, h1, z⟩
  · exact ⟨_, _, rfl, h2, z⟩
  · exact ⟨_, _, rfl, h3, z⟩
  · exact ⟨_, _, rfl, h4, z⟩
  · exact ⟨_, _, rfl, h5, z⟩
  · exact ⟨_, _, rfl, h6, z⟩
  · exact ⟨_, _, rfl, h7, z⟩
  · exact ⟨_, _, rfl, h7, z⟩
  · exact ⟨_, _, rfl, h6, z⟩
  · exact ⟨_, _, rfl, h7, z⟩
  · exact ⟨_, _, rfl, h7, z⟩
  · exact z.elim⟩
theorem isa_bool : IsA "bool" isaBool := isa_of (t := fun U => U == "bool") (fun m k z => by unfold isaBool at z; unfold isaB; split at z <;> first | exact z | exact z.elim) (by decide +kernel) (by decide +kernel) (by decide +kernel) (by decide +kernel) (by decide +kernel) (by decide +kernel) (by decide +kernel)
theorem isa_int : IsA "int" isaInt := isa_of (t := fun U => U == "int" || U == "bool") (fun m k z => by unfold isaInt at z; unfold isaB; split at z <;> first | exact z | exact z.elim) (by decide +kernel) (by decide +kernel) (by decide +kernel) (by decide +kernel) (by decide +kernel) (by decide +kernel) (by decide +kernel)
theorem isa_str : IsA "str" isaStr := isa_of (t := fun U => U == "str") (fun m k z => by unfold isaStr at z; unfold isaB; split at z <;> first | exact z | exact z.elim) (by decide +kernel) (by decide +kernel) (by decide +kernel) (by decide +kernel) (by decide +kernel) (by decide +kernel) (by decide +kernel)
theorem isa_list : IsA "list" isaList := isa_of (t := fun U => U == "list") (fun m k z => by unfold isaList at z; unfold isaB; split at z <;> first | exact z | exact z.elim) (by decide +kernel) (by decide +kernel) (by decide +kernel) (by decide +kernel) (by decide +kernel) (by decide +kernel) (by decide +kernel)
theorem isa_tuple : IsA "tuple" isaTuple := isa_of (t := fun U => U == "tuple") (fun m k z => by unfold isaTuple at z; unfold isaB; split at z <;> first | exact z | exact z.elim) (by decide +kernel) (by decide +kernel) (by decide +kernel) (by decide +kernel) (by decide +kernel) (by decide +kernel) (by decide +kernel)
def fIsa (f : M → (Bool → Prop) → Prop) (fo : FO) : FE := fun S R XR => fo S (fun a S1 => f (arD a S1) fun b => R (.v (.bl b)) S1) XR
section
variable {X : Cx} {W : WX}
/-- what an operand holds -/
theorem RS.opd {K : PySem.W.Frag} {H : Hp} {σ : L2.St} {S : List M} {a : Ar} {v : V} {G : List Pr} (l : σ.length = S.length) (ok : ArOk σ a v) (rs : RS K H ((some v, arM a) :: (G ++ σ.zip S))) (hn : arD a S ≠ .gone) : ∃ L, RS K H ((some v, arD a S) :: L) := by
  cases a with
  | m m => exact ⟨_, rs⟩
  | n i =>
    unfold arD at hn ⊢
    simp only at hn ⊢
    cases e : S[i]? with
    | none => rw [e] at hn; exact absurd rfl hn
    | some m =>
      obtain ⟨x, e1, r1⟩ := RS.take rs.drop l e
      have e2 : σ[i]? = some (some v) := ok
      rw [e2] at e1
      cases e1
      exact ⟨_, r1⟩
theorem tyM_ng {m : M} {U : String} (h : tyM m = some U) : m ≠ .gone := fun z => by subst z; cases h
theorem de_isa {T : String} {f : M → (Bool → Prop) → Prop} {e : Expr} {fo : FO} {t : Str} {p pt pos : Pos} (hf : IsA T f) (hg : Gl X "isinstance") (hm : X.mg "isinstance" = none) (ho : DO X W e fo) (hgt : Gl X t) (hmt : X.mg t = none) (hvt : bootBuiltins t = some (.type T))
    (hn : t ≠ "__name__" := by decide) (hd : (t == ("__debug__" : Str)) = false := by decide) (hv : bootBuiltins "isinstance" = some (.builtin "isinstance") := by decide +kernel)
    (he : starEach [e, .Name t pt] X.env = (false, eval e X.env) :: starEach [.Name t pt] X.env := by rfl) (hpl : (backTo pos (starEach [.Name t pt] X.env)).any (·.1) = false := by rfl) (he2 : starEach [.Name t pt] X.env = (false, eval (.Name t pt) X.env) :: starEach [] X.env := by rfl) :
    DE X W (.Call (.Name "isinstance" p) [e, .Name t pt] [] pos) (fIsa f fo) :=
  ⟨pe_le (pe_callB call_isi hg hm hv (pa_cons ho.pe (pa_cons (pe_bltn (v := .ty T) hgt hmt hvt rfl hn hd) pa_nil he2) he) (by decide) (by decide) he hpl) fun σ H Q h => by
    obtain ⟨G, S, R, XR, l, rs, hF, hQ, hX⟩ := h
    refine ⟨G, S, _, XR, l, rs, hF, fun a S1 v H1 l1 h1 ok1 rs1 => ?_, hX⟩
    obtain ⟨U, b, h2, h3, h4⟩ := hf.ok _ _ h1
    obtain ⟨L, rs2⟩ := RS.opd l1 ok1 rs1 (tyM_ng h2)
    obtain ⟨O, f1, n, hm, r⟩ := RS.one rs2
    exact ⟨v, .ty T, .type U, .type T, b, rfl, .ty T, tyX_of hm h2, kit_ty h3, hQ _ S1 _ H1 l1 h4 (rs1.drop.bl _)⟩⟩
end
/-- a list or tuple of any standing -/
theorem sqV_cases {x : M} {ds : List D} (h : sqV x = some ds) : x = .v (.tup ds) ∨ x = .v (.lst ds) ∨ x = .ml ds := by
  unfold sqV at h
  split at h
  · cases h; exact .inr (.inl rfl)
  · cases h; exact .inl rfl
  · cases h; exact .inr (.inr rfl)
  · cases h
end DM

namespace K04
open PySem PySem.Spec PyProof.Rows
open L2 DM
def topS (i : Nat) : Stmt :=
  PySem.Challenge.pw_translatory_k04_tapes_and_their_numbers.main.body.getD i (.Pass ⟨0, 0, 0, 0⟩)
/-! ### the mathematics -/
/-- the pool of drawn numbers -/
def PoolOk (p : List D) : Prop := ∃ (ns : List Int) (a b c d : Int), ns.length ≤ 63 ∧ 0 ≤ a ∧ a ≤ 1000 ∧ p = [.lst (ns.map D.int), .int a, .int b, .int c, .int d]
@[irreducible] def m__law_pool : FM := fun ms R _ => ∃ ns : List Int, ns.length ≤ 63 ∧ ms = [.v (.lst (ns.map D.int))] ∧ ∀ p, PoolOk p → R (.ml p) ms
@[irreducible] def m__law_spread : FM := fun ms R _ => ∃ c : Int, ms = [.v (.int c)] ∧ ∀ z, R (.v (.int z)) ms
@[irreducible] def m__law_draw : FM := fun ms R _ => ∃ (p : List D) (m : Int), ms = [.ml p, .v (.int m)] ∧ PoolOk p ∧ 0 < m ∧ m < 2 ^ 62 ∧ ∀ z p', 0 ≤ z → z < m → PoolOk p' → R (.v (.int z)) [.ml p', .v (.int m)]
/-- without zeros at the end -/
def strip (xs : List Int) : List Int := (xs.reverse.dropWhile (· == 0)).reverse
@[irreducible] def m__law_strip : FM := fun ms R _ => ∃ (x : M) (xs : List Int), ms = [x] ∧ sqV x = some (xs.map D.int) ∧ xs.length ≤ 100000 ∧ R (.v (.tup ((strip xs).map D.int))) ms
@[irreducible] def m_stripped : FM := fun ms R _ => ∃ (x : M) (xs : List Int), ms = [x] ∧ sqV x = some (xs.map D.int) ∧ xs.length ≤ 100000 ∧ R (.v (.tup ((strip xs).map D.int))) ms
def confD (s : Int) (l : List Int) (h : Int) (r : List Int) : D := .tup [.int s, .tup (l.map D.int), .int h, .tup (r.map D.int)]
def startD : List Int → D
  | [] => confD 0 [] 0 []
  | x :: r => confD 0 [] x (strip r)
@[irreducible] def m_start : FM := fun ms R _ => ∃ xs : List Int, ms = [.v (.tup (xs.map D.int))] ∧ xs.length ≤ 100000 ∧ R (.v (startD xs)) ms
def content (l : List Int) (h : Int) (r : List Int) : List Int := (strip (strip (l.reverse ++ [h] ++ r)).reverse).reverse
@[irreducible] def m_content : FM := fun ms R _ => ∃ (s : Int) (l : List Int) (h : Int) (r : List Int), ms = [.v (confD s l h r)] ∧ l.length ≤ 10000 ∧ r.length ≤ 10000 ∧ R (.v (.tup ((content l h r).map D.int))) ms
def num (b : Int) (xs : List Int) : Int := xs.reverse.foldl (fun n x => n * b + x) 0
@[irreducible] def m__law_number : FM := fun ms R _ => ∃ (xs : List Int) (b : Int), ms = [.v (.tup (xs.map D.int)), .v (.int b)] ∧ 0 ≤ b ∧ b < 2 ^ 62 ∧ R (.v (.int (num b xs))) ms
@[irreducible] def m_number_of : FM := fun ms R _ => ∃ (xs : List Int) (b : Int), ms = [.v (.tup (xs.map D.int)), .v (.int b)] ∧ 0 ≤ b ∧ b < 2 ^ 62 ∧ R (.v (.int (num b xs))) ms
def syms (b : Nat) : Nat → Nat → List Int
  | 0, _ => []
  | f + 1, n => if n = 0 then [] else ((n % b : Nat) : Int) :: syms b f (n / b)
def symsOf (b n : Int) : List Int := syms b.toNat (n.toNat + 1) n.toNat
@[irreducible] def m_symbols_of : FM := fun ms R _ => ∃ n b : Int, ms = [.v (.int n), .v (.int b)] ∧ 0 ≤ n ∧ n < 2 ^ 4000 ∧ 2 ≤ b ∧ b < 2 ^ 62 ∧ ∀ x, R (.v (.tup ((symsOf b n).map D.int))) [x, .v (.int b)]
mutual
/-- plain data of a depth -/
def dep : Nat → D → Bool
  | 0, _ => false
  | n + 1, .tup ds => decide (ds.length ≤ 100000) && deps n ds
  | n + 1, .lst ds => decide (ds.length ≤ 100000) && deps n ds
  | _ + 1, .non => true
  | _ + 1, .bl _ => true
  | _ + 1, .int _ => true
  | _ + 1, .str _ => true
  | _ + 1, _ => false
def deps (n : Nat) : List D → Bool
  | [] => true
  | d :: ds => dep n d && deps n ds
end
/-- a is what is due -/
def asM : M → Option D
  | .v d => some d
  | .ml ds => some (.lst ds)
  | _ => none
@[irreducible] def m__law_like : Nat → FM
  | 0 => fun _ _ _ => False
  | n + 1 => fun ms R _ => ∃ (a b : M) (d : D), ms = [a, b] ∧ asM a = some d ∧ asM b = some d ∧ dep (n + 1) d = true ∧ R (.v (.bl true)) ms
@[irreducible] def m_law : FM := fun ms R _ => ∃ ns : List Int, ns.length ≤ 63 ∧ ms = [.v (.lst (ns.map D.int))] ∧ ∀ ms', R (.v (.bl true)) ms'
abbrev st__law_pool : Stmt := topS 11
abbrev N__law_pool : List Str := ["_law_script", "_law_salt", "_law_cell"]
abbrev mask__law_pool : List Bool := [true]
/- slots: 0 _law_script, 1 _law_salt, 2 _law_cell -/
def b__law_pool : FS := sSeq (sSet 1 (fC (.int 7))) (sSeq (sFor (iVal (fSl (oM (fV 0)) (pNo) (pSome (fC (.int 63))))) (gNm 2) (sSet 1 (f2 modB (oM (fB intB (osCons (oM (f2 addB (oM (f2 mulB (oM (fV 1)) (oM (fC (.int 31))))) (oM (fV 2)))) (osNil)))) (oM (fC (.int 1000003)))))) (sRt (fLst (faCons (fB listB (osCons (oM (fV 0)) (osNil))) (faCons (fC (.int 0)) (faCons (fC (.int 0)) (faCons (fC (.int 0)) (faCons (fV 1) (faNil)))))))))
abbrev st__law_spread : Stmt := topS 12
abbrev N__law_spread : List Str := ["_law_cell", "_law_mixed", "_law_total", "_law_k"]
abbrev mask__law_spread : List Bool := [true]
/- slots: 0 _law_cell, 1 _law_mixed, 2 _law_total, 3 _law_k -/
def b__law_spread : FS := sSeq (sSet 1 (f2 modB (oM (fB intB (osCons (oM (fV 0)) (osNil)))) (oM (fC (.int 2147483647))))) (sSeq (sSet 2 (fC (.int 1))) (sSeq (sFor (iR1 (faCons (fC (.int 4)) (faNil))) (gNm 3) (sSeq (sSet 1 (f2 modB (oM (fB intB (osCons (oM (f2 addB (oM (f2 addB (oM (f2 mulB (oM (fV 1)) (oM (fC (.int 48271))))) (oM (fC (.int 12345))))) (oM (fV 3)))) (osNil)))) (oM (fC (.int 2147483647))))) (sSet 2 (f2 addB (oM (f2 mulB (oM (fV 2)) (oM (fC (.int 2147483647))))) (oM (fV 1)))))) (sRt (fV 2))))
abbrev st__law_draw : Stmt := topS 13
abbrev N__law_draw : List Str := ["_law_pool_here", "_law_many", "_law_cell", "_law_mixed", "_law_value"]
abbrev mask__law_draw : List Bool := [true, true]
/- slots: 0 _law_pool_here, 1 _law_many, 2 _law_cell, 3 _law_mixed, 4 _law_value -/
def b__law_draw_5 : FS := sRt (fV 4)
def b__law_draw_4 : FS := sSeq (sAs (f2 divB (oM (f2 ixB (oN 0) (oM (fC (.int 2))))) (oM (fV 1))) (gSb setLB (oN 0) (oM (fC (.int 2))))) b__law_draw_5
def b__law_draw_3 : FS := sSeq (sSet 4 (f2 modB (oM (fB intB (osCons (oM (f2 ixB (oN 0) (oM (fC (.int 2))))) (osNil)))) (oM (fV 1)))) b__law_draw_4
def b__law_draw_2 : FS := sSeq (sIf (tOf (f2 leB (oM (f2 ixB (oN 0) (oM (fC (.int 2))))) (oM (fC (.int 0))))) (sSeq (sSet 3 (f2 modB (oM (fB intB (osCons (oM (f2 addB (oM (f2 addB (oM (f2 mulB (oM (f2 ixB (oN 0) (oM (fC (.int 4))))) (oM (fC (.int 48271))))) (oM (f2 mulB (oM (f2 ixB (oN 0) (oM (fC (.int 3))))) (oM (fC (.int 69621))))))) (oM (fC (.int 1))))) (osNil)))) (oM (fC (.int 2147483647))))) (sSeq (sSet 3 (f2 modB (oM (fB intB (osCons (oM (f2 addB (oM (f2 mulB (oM (fV 3)) (oM (fC (.int 16807))))) (oM (f2 ixB (oN 0) (oM (fC (.int 3))))))) (osNil)))) (oM (fC (.int 2147483629))))) (sRt (f2 modB (oM (f2 divB (oM (fV 3)) (oM (fC (.int 5))))) (oM (fV 1)))))) (sNx)) b__law_draw_3
def b__law_draw_1 : FS := sSeq (sAs (f2 addB (oM (f2 ixB (oN 0) (oM (fC (.int 3))))) (oM (fC (.int 1)))) (gSb setLB (oN 0) (oM (fC (.int 3))))) b__law_draw_2
def b__law_draw : FS := sSeq (sIf (tA2 (tOf (f2 leB (oM (f2 ixB (oN 0) (oM (fC (.int 2))))) (oM (fC (.int 0))))) (tOf (f2 ltB (oM (f2 ixB (oN 0) (oM (fC (.int 1))))) (oM (fB lenB (osCons (oM (f2 ixB (oN 0) (oM (fC (.int 0))))) (osNil))))))) (sSeq (sSet 2 (f2 ixB (oM (f2 ixB (oN 0) (oM (fC (.int 0))))) (oM (f2 ixB (oN 0) (oM (fC (.int 1))))))) (sSeq (sAs (f2 addB (oM (f2 ixB (oN 0) (oM (fC (.int 1))))) (oM (fC (.int 1)))) (gSb setLB (oN 0) (oM (fC (.int 1))))) (sSeq (sAs (fV 2) (gSb setLB (oN 0) (oM (fC (.int 2))))) (sIf (tOf (f2 ltB (oM (fV 2)) (oM (fC (.int 1000000000000000000))))) (sAs (fCall m__law_spread 1 (osCons (oM (fV 2)) (osNil))) (gSb setLB (oN 0) (oM (fC (.int 2))))) (sNx))))) (sNx)) b__law_draw_1
abbrev st__law_strip : Stmt := topS 9
abbrev N__law_strip : List Str := ["_law_symbols", "_law_size", "_law_k"]
abbrev mask__law_strip : List Bool := [true]
/- slots: 0 _law_symbols, 1 _law_size, 2 _law_k -/
def b__law_strip : FS := sSeq (sSet 1 (fB lenB (osCons (oN 0) (osNil)))) (sSeq (sFor (iR1 (faCons (fB lenB (osCons (oN 0) (osNil))) (faNil))) (gNm 2) (sIf (tA2 (tOf (f2 gtB (oM (fV 1)) (oM (fC (.int 0))))) (tOf (f2 eqB (oM (f2 ixB (oN 0) (oM (f2 subB (oM (fV 1)) (oM (fC (.int 1))))))) (oM (fC (.int 0)))))) (sSet 1 (f2 subB (oM (fV 1)) (oM (fC (.int 1))))) (sNx))) (sRt (fB tupleB (osCons (oM (fSl (oN 0) (pNo) (pSome (fV 1)))) (osNil)))))
abbrev st_stripped : Stmt := topS 2
abbrev N_stripped : List Str := ["symbols", "size"]
abbrev mask_stripped : List Bool := [true]
/- slots: 0 symbols, 1 size -/
def b_stripped : FS := sSeq (sSet 1 (fB lenB (osCons (oN 0) (osNil)))) (sSeq (sWh (tA2 (tOf (f2 gtB (oM (fV 1)) (oM (fC (.int 0))))) (tOf (f2 eqB (oM (f2 ixB (oN 0) (oM (f2 subB (oM (fV 1)) (oM (fC (.int 1))))))) (oM (fC (.int 0)))))) (sAug 1 isubB (fC (.int 1)))) (sRt (fB tupleB (osCons (oM (fSl (oN 0) (pNo) (pSome (fV 1)))) (osNil)))))
abbrev st_start : Stmt := topS 3
abbrev N_start : List Str := ["word"]
abbrev mask_start : List Bool := [true]
/- slots: 0 word -/
def b_start : FS := sSeq (sIf (tOf (f2 eqB (oM (fB lenB (osCons (oM (fV 0)) (osNil)))) (oM (fC (.int 0))))) (sRt (fTup (faCons (fC (.int 0)) (faCons (fTup (faNil)) (faCons (fC (.int 0)) (faCons (fTup (faNil)) (faNil))))))) (sNx)) (sRt (fTup (faCons (fC (.int 0)) (faCons (fTup (faNil)) (faCons (f2 ixB (oM (fV 0)) (oM (fC (.int 0)))) (faCons (fCall m_stripped 1 (osCons (oM (fSl (oM (fV 0)) (pSome (fC (.int 1))) (pNo))) (osNil))) (faNil)))))))
abbrev st__law_like : Stmt := topS 8
abbrev N__law_like : List Str := ["_law_actual", "_law_due", "_law_k"]
abbrev mask__law_like : List Bool := [true, true]
/- slots: 0 _law_actual, 1 _law_due, 2 _law_k -/
def b__law_like_6 (mself : FM) : FS := sRt (fB allB (osCons (oM (fLc (iR1 (faCons (fB lenB (osCons (oN 1) (osNil))) (faNil))) (gNm 2) (tTrue) (fCall mself 2 (osCons (oM (f2 ixB (oN 0) (oM (fV 2)))) (osCons (oM (f2 ixB (oN 1) (oM (fV 2)))) (osNil)))) [2])) (osNil)))
def b__law_like_5 (mself : FM) : FS := sSeq (sIf (tOf (f2 neB (oM (fB lenB (osCons (oN 0) (osNil)))) (oM (fB lenB (osCons (oN 1) (osNil)))))) (sRt (fC (.bl false))) (sNx)) (b__law_like_6 mself)
def b__law_like_4 (mself : FM) : FS := sSeq (sIf (tO2 (tOf (f2 neB (oM (fIsa isaList (oN 1))) (oM (fIsa isaList (oN 0))))) (tOf (f2 neB (oM (fIsa isaTuple (oN 1))) (oM (fIsa isaTuple (oN 0)))))) (sRt (fC (.bl false))) (sNx)) (b__law_like_5 mself)
def b__law_like_3 (mself : FM) : FS := sSeq (sIf (tOf (fIsa isaInt (oN 1))) (sRt (vA2 (fIsa isaInt (oN 0)) (vA2 (vNt (fIsa isaBool (oN 0))) (f2 eqB (oN 0) (oN 1))))) (sNx)) (b__law_like_4 mself)
def b__law_like_2 (mself : FM) : FS := sSeq (sIf (tOf (fIsa isaStr (oN 1))) (sRt (vA2 (fIsa isaStr (oN 0)) (f2 eqB (oN 0) (oN 1)))) (sNx)) (b__law_like_3 mself)
def b__law_like_1 (mself : FM) : FS := sSeq (sIf (tOf (fIsa isaBool (oN 1))) (sRt (vA2 (fIsa isaBool (oN 0)) (f2 eqB (oN 0) (oN 1)))) (sNx)) (b__law_like_2 mself)
def b__law_like (mself : FM) : FS := sSeq (sIf (tOf (f2 isNB (oN 1) (oM (fC .non)))) (sRt (f2 isNB (oN 0) (oM (fC .non)))) (sNx)) (b__law_like_1 mself)
abbrev st_content : Stmt := topS 4
abbrev N_content : List Str := ["configuration", "_", "left", "here", "right", "tape"]
abbrev mask_content : List Bool := [true]
/- slots: 0 configuration, 1 _, 2 left, 3 here, 4 right, 5 tape -/
def b_content : FS := sSeq (sAs (fV 0) (gTp 4 (gsCons (gNm 1) (gsCons (gNm 2) (gsCons (gNm 3) (gsCons (gNm 4) (gsNil))))))) (sSeq (sSet 5 (fCall m_stripped 1 (osCons (oM (f2 addB (oM (f2 addB (oM (f1 revB (oM (fV 2)))) (oM (fTup (faCons (fV 3) (faNil)))))) (oM (fV 4)))) (osNil)))) (sRt (f1 revB (oM (fCall m_stripped 1 (osCons (oM (f1 revB (oM (fV 5)))) (osNil)))))))
abbrev st__law_number : Stmt := topS 10
abbrev N__law_number : List Str := ["_law_symbols", "_law_base", "_law_number_here", "_law_symbol"]
abbrev mask__law_number : List Bool := [true, true]
/- slots: 0 _law_symbols, 1 _law_base, 2 _law_number_here, 3 _law_symbol -/
def b__law_number : FS := sSeq (sSet 2 (fC (.int 0))) (sSeq (sFor (iVal (f1 revB (oM (fV 0)))) (gNm 3) (sSet 2 (f2 addB (oM (f2 mulB (oM (fV 2)) (oM (fV 1)))) (oM (fV 3))))) (sRt (fV 2)))
abbrev st_number_of : Stmt := topS 5
abbrev N_number_of : List Str := ["symbols", "base", "number", "symbol"]
abbrev mask_number_of : List Bool := [true, true]
/- slots: 0 symbols, 1 base, 2 number, 3 symbol -/
def b_number_of : FS := sSeq (sSet 2 (fC (.int 0))) (sSeq (sFor (iVal (f1 revB (oM (fV 0)))) (gNm 3) (sSet 2 (f2 addB (oM (f2 mulB (oM (fV 2)) (oM (fV 1)))) (oM (fV 3))))) (sRt (fV 2)))
abbrev st_symbols_of : Stmt := topS 6
abbrev N_symbols_of : List Str := ["number", "base", "found"]
abbrev mask_symbols_of : List Bool := [false, true]
/- slots: 0 number, 1 base, 2 found -/
def b_symbols_of : FS := sSeq (sSet 2 (fLst (faNil))) (sSeq (sWh (tOf (f2 gtB (oM (fV 0)) (oM (fC (.int 0))))) (sSeq (sEx (fML appendB (oN 2) (osCons (oM (fB intB (osCons (oM (f2 modB (oM (fV 0)) (oM (fV 1)))) (osNil)))) (osNil)))) (sSet 0 (f2 divB (oM (fV 0)) (oM (fV 1)))))) (sRt (fB tupleB (osCons (oN 2) (osNil)))))
abbrev st_law : Stmt := topS 14
abbrev N_law : List Str := ["_law_script", "_law_pool_here", "_law_base", "_law_word", "_law_due", "_law_left", "_law_right", "_law_here", "_law_tape", "_law_number_here", "_law_great", "_law_k", "_law_symbols", "_law_one"]
abbrev mask_law : List Bool := [true]
/- slots: 0 _law_script, 1 _law_pool_here, 2 _law_base, 3 _law_word, 4 _law_due, 5 _law_left, 6 _law_right, 7 _law_here, 8 _law_tape, 9 _law_number_here, 10 _law_great, 11 _law_k, 12 _law_symbols, 13 _law_one -/
def b_law_18 : FS := sRt (f2 eqB (oM (fCall m__law_number 2 (osCons (oM (fV 12)) (osCons (oM (fV 2)) (osNil))))) (oM (fV 10)))
def b_law_17 : FS := sSeq (sIf (tO2 (tOf (f2 neB (oM (fV 12)) (oM (fCall m__law_strip 1 (osCons (oM (fV 12)) (osNil)))))) (tOf (f2 gtB (oM (fB lenB (osCons (oM (fLc (iVal (fV 12)) (gNm 13) (tNt (tOf (fCh leB ltB (fC (.int 0)) (fV 13) (fV 2)))) (fV 13) [13])) (osNil)))) (oM (fC (.int 0)))))) (sRt (fC (.bl false))) (sNx)) b_law_18
def b_law_16 : FS := sSeq (sSet 12 (fCall m_symbols_of 2 (osCons (oM (fV 10)) (osCons (oM (fV 2)) (osNil))))) b_law_17
def b_law_15 : FS := sSeq (sFor (iR1 (faCons (fCall m__law_draw 2 (osCons (oN 1) (osCons (oM (fC (.int 16))) (osNil)))) (faNil))) (gNm 11) (sSet 10 (f2 addB (oM (f2 mulB (oM (fV 10)) (oM (fC (.int 10000))))) (oM (fCall m__law_draw 2 (osCons (oN 1) (osCons (oM (fC (.int 10000))) (osNil)))))))) b_law_16
def b_law_14 : FS := sSeq (sSet 10 (fC (.int 0))) b_law_15
def b_law_13 : FS := sSeq (sIf (tO2 (tNt (tOf (fCall (m__law_like 8) 2 (osCons (oM (fCall m_number_of 2 (osCons (oM (fV 3)) (osCons (oM (fV 2)) (osNil))))) (osCons (oM (fV 9)) (osNil)))))) (tNt (tOf (fCall (m__law_like 8) 2 (osCons (oM (fCall m_symbols_of 2 (osCons (oM (fV 9)) (osCons (oM (fV 2)) (osNil))))) (osCons (oM (fCall m__law_strip 1 (osCons (oM (fV 3)) (osNil)))) (osNil))))))) (sRt (fC (.bl false))) (sNx)) b_law_14
def b_law_12 : FS := sSeq (sSet 9 (fCall m__law_number 2 (osCons (oM (fV 3)) (osCons (oM (fV 2)) (osNil))))) b_law_13
def b_law_11 : FS := sSeq (sIf (tNt (tOf (fCall (m__law_like 8) 2 (osCons (oM (fCall m_content 1 (osCons (oM (fCall m_start 1 (osCons (oM (fV 3)) (osNil)))) (osNil)))) (osCons (oM (f1 revB (oM (fCall m__law_strip 1 (osCons (oM (f1 revB (oM (fCall m__law_strip 1 (osCons (oM (fV 3)) (osNil)))))) (osNil)))))) (osNil)))))) (sRt (fC (.bl false))) (sNx)) b_law_12
def b_law_10 : FS := sSeq (sIf (tNt (tOf (fCall (m__law_like 8) 2 (osCons (oM (fCall m_content 1 (osCons (oM (fTup (faCons (fCall m__law_draw 2 (osCons (oN 1) (osCons (oM (fC (.int 9))) (osNil)))) (faCons (fV 5) (faCons (fV 7) (faCons (fV 6) (faNil))))))) (osNil)))) (osCons (oM (f1 revB (oM (fCall m__law_strip 1 (osCons (oM (f1 revB (oM (fV 8)))) (osNil)))))) (osNil)))))) (sRt (fC (.bl false))) (sNx)) b_law_11
def b_law_9 : FS := sSeq (sSet 8 (fCall m__law_strip 1 (osCons (oM (f2 addB (oM (f2 addB (oM (f1 revB (oM (fV 5)))) (oM (fTup (faCons (fV 7) (faNil)))))) (oM (fV 6)))) (osNil)))) b_law_10
def b_law_8 : FS := sSeq (sSet 7 (fIf (tOf (f2 eqB (oM (fCall m__law_draw 2 (osCons (oN 1) (osCons (oM (fC (.int 2))) (osNil))))) (oM (fC (.int 0))))) (fCall m__law_draw 2 (osCons (oN 1) (osCons (oM (fV 2)) (osNil)))) (fC (.int 0)))) b_law_9
def b_law_7 : FS := sSeq (sSet 6 (fCall m__law_strip 1 (osCons (oM (fLc (iR1 (faCons (fCall m__law_draw 2 (osCons (oN 1) (osCons (oM (fC (.int 5))) (osNil)))) (faNil))) (gNm 11) (tTrue) (fCall m__law_draw 2 (osCons (oN 1) (osCons (oM (fV 2)) (osNil)))) [11])) (osNil)))) b_law_8
def b_law_6 : FS := sSeq (sSet 5 (fCall m__law_strip 1 (osCons (oM (fLc (iR1 (faCons (fCall m__law_draw 2 (osCons (oN 1) (osCons (oM (fC (.int 5))) (osNil)))) (faNil))) (gNm 11) (tTrue) (fCall m__law_draw 2 (osCons (oN 1) (osCons (oM (fV 2)) (osNil)))) [11])) (osNil)))) b_law_7
def b_law_5 : FS := sSeq (sIf (tNt (tOf (fCall (m__law_like 8) 2 (osCons (oM (fCall m_start 1 (osCons (oM (fV 3)) (osNil)))) (osCons (oM (fV 4)) (osNil)))))) (sRt (fC (.bl false))) (sNx)) b_law_6
def b_law_4 : FS := sSeq (sIf (tOf (f2 neB (oM (fV 3)) (oM (fTup (faNil))))) (sSet 4 (fTup (faCons (fC (.int 0)) (faCons (fTup (faNil)) (faCons (f2 ixB (oM (fV 3)) (oM (fC (.int 0)))) (faCons (fCall m__law_strip 1 (osCons (oM (fSl (oM (fV 3)) (pSome (fC (.int 1))) (pNo))) (osNil))) (faNil))))))) (sNx)) b_law_5
def b_law_3 : FS := sSeq (sSet 4 (fTup (faCons (fC (.int 0)) (faCons (fTup (faNil)) (faCons (fC (.int 0)) (faCons (fTup (faNil)) (faNil))))))) b_law_4
def b_law_2 : FS := sSeq (sSet 3 (fB tupleB (osCons (oM (fLc (iR1 (faCons (fCall m__law_draw 2 (osCons (oN 1) (osCons (oM (fC (.int 10))) (osNil)))) (faNil))) (gNm 11) (tTrue) (fIf (tOf (f2 gtB (oM (fCall m__law_draw 2 (osCons (oN 1) (osCons (oM (fC (.int 3))) (osNil))))) (oM (fC (.int 0))))) (fCall m__law_draw 2 (osCons (oN 1) (osCons (oM (fV 2)) (osNil)))) (fC (.int 0))) [11])) (osNil)))) b_law_3
def b_law_1 : FS := sSeq (sSet 2 (f2 ixB (oM (fLst (faCons (fC (.int 2)) (faCons (fC (.int 3)) (faCons (fC (.int 10)) (faCons (fC (.int 400)) (faNil))))))) (oM (fCall m__law_draw 2 (osCons (oN 1) (osCons (oM (fC (.int 4))) (osNil))))))) b_law_2
def b_law : FS := sSeq (sSet 1 (fCall m__law_pool 1 (osCons (oM (fV 0)) (osNil)))) b_law_1
theorem atI_of {ds : List D} {j : Nat} {d : D} (h : ds[j]? = some d) : atI ds (Int.ofNat j) = some d := L2.atI_nat h
theorem atI_map {α : Type} {f : α → D} {xs : List α} {j : Nat} {x : α} (h : xs[j]? = some x) : atI (xs.map f) (Int.ofNat j) = some (f x) := L2.atI_nat (by rw [List.getElem?_map, h]; rfl)
local macro_rules | `(tactic| walk_at "go") => `(tactic| ((conv => whnf); (repeat ((first | with_reducible refine iteP_T ?_ | with_reducible refine iteP_F ?_); (conv => whnf)))))
local macro_rules | `(tactic| walk_at "g1") => `(tactic| first | with_reducible refine iteP_T ?_ | with_reducible refine iteP_F ?_ | refine iteP_pos rfl ?_ | refine iteP_neg rfl ?_ | refine ⟨MulOk.right (by omega) (by omega), ?_⟩ | refine ⟨MulOk.left (by omega) (by omega), ?_⟩ | refine ⟨DivOk.small (by omega) (by omega), ?_⟩ | refine ⟨rfl, ?_⟩ | refine ⟨(by decide : (_ : Prop)), ?_⟩ | refine ⟨(by omega : (_ : Prop)), ?_⟩ | refine ⟨⟨by (try rw [List.length_map]); omega, by (try rw [List.length_map]); omega⟩, ?_⟩ | refine ⟨_, rfl, ?_⟩ | refine ⟨_, rfl, rfl, ?_⟩ | refine ⟨_, _, rfl, atI_of rfl, ?_⟩ | refine ⟨_, _, rfl, atI_map rfl, ?_⟩ | refine ⟨_, _, rfl, rfl, ?_⟩ | refine ⟨_, _, rfl, ?_⟩ | refine ⟨_, _, rfl, rfl, rfl, rfl, ?_⟩)
local macro_rules | `(tactic| walk_at "gx") => `(tactic| ((conv => whnf); (repeat ((walk_at "g1"); (conv => whnf)))))
/-! ### strip -/
theorem strip_snoc0 (xs : List Int) : strip (xs ++ [0]) = strip xs := by
  unfold strip
  rw [List.reverse_append]
  rfl
theorem strip_snoc (xs : List Int) {x : Int} (h : x ≠ 0) : strip (xs ++ [x]) = xs ++ [x] := by
  unfold strip
  rw [List.reverse_append]
  show (([x] ++ xs.reverse).dropWhile (· == 0)).reverse = _
  rw [List.singleton_append, List.dropWhile_cons_of_neg (by simpa using h), List.reverse_cons, List.reverse_reverse]
theorem take_last {xs : List Int} {k : Nat} (h : 0 < k) (hk : k ≤ xs.length) : xs.take k = xs.take (k - 1) ++ [xs[k - 1]'(by omega)] := by
  have e : k = (k - 1) + 1 := by omega
  have q := take_succ' (l := xs) (i := k - 1) (x := xs[k - 1]'(by omega)) (List.getElem?_eq_getElem (by omega))
  rw [← e] at q
  exact q
theorem atI_int {xs : List Int} {k : Nat} {i : Int} (e : i = (k : Int)) (hk : k < xs.length) : atI (xs.map D.int) i = some (.int (xs[k]'hk)) := by
  subst e
  rw [L2.atI_nat (j := k) (by rw [List.getElem?_map, List.getElem?_eq_getElem hk]; rfl)]
theorem cut_take {α : Type} (xs : List α) {k : Nat} (h : k ≤ xs.length) : cut xs none (some (k : Int)) = xs.take k := by
  unfold cut
  have e1 : HT.sIx xs.length 0 none = 0 := HT.sIx_none _ _
  have e2 : HT.sIx xs.length xs.length (some (k : Int)) = min k xs.length := HT.sIx_nat xs.length xs.length k
  rw [e1, e2, List.drop_zero, Nat.sub_zero, Nat.min_eq_left h]
theorem cut_drop1 {α : Type} (xs : List α) : cut xs (some 1) none = xs.drop 1 := by
  unfold cut
  rw [show HT.sIx xs.length 0 (some 1) = min 1 xs.length from HT.sIx_nat xs.length 0 1, HT.sIx_none]
  cases xs with
  | nil => rfl
  | cons x r =>
    rw [show min 1 (x :: r).length = 1 by
      rw [List.length_cons]
      omega]
    show (List.take ((x :: r).length - 1) r) = r
    rw [List.length_cons, Nat.add_sub_cancel]
    exact List.take_length
theorem is_stripped : BodyIs mask_stripped 2 b_stripped m_stripped := by
  intro ms R XR _ h
  unfold m_stripped at h
  obtain ⟨x, xs, rfl, hs, h0, h⟩ := h
  rcases sqV_cases hs with rfl | rfl | rfl
  all_goals
    walk_at "go"
    refine ⟨_, rfl, ?_⟩
    walk_at "go"
    refine wh_of (fun S => ∃ k : Nat, k ≤ xs.length ∧ strip xs = strip (xs.take k) ∧ S = [_, .v (.int k)]) (fun S => match S with | [_, .v (.int k)] => k.toNat | _ => 0) ⟨xs.length, Nat.le_refl _, by rw [List.take_length], by rw [List.length_map]; rfl⟩ ?_
    rintro S ⟨k, hk, e, rfl⟩ n ih
    walk_at "go"
    have fin : strip (xs.take k) = xs.take k → cut (xs.map D.int) none (some (k : Int)) = (strip xs).map D.int := fun e2 => by
      rw [cut_take _ (by rw [List.length_map]; exact hk), ← List.map_take, ← e2, ← e]
    refine iteP_d (fun h1 => ?_) (fun h1 => ?_)
    · walk_at "go"
      have h1' : 0 < k := by omega
      have hl : k - 1 < xs.length := by omega
      refine ⟨_, _, rfl, atI_int (k := k - 1) (by omega) hl, ?_⟩
      walk_at "go"
      refine iteP_d (fun h2 => ?_) (fun h2 => ?_)
      · walk_at "go"
        refine ih _ ⟨k - 1, by omega, ?_, ?_⟩ ?_
        · rw [e, take_last h1' hk, h2, strip_snoc0]
        · show [_, M.v (D.int ((k : Int) - 1))] = _
          rw [show ((k - 1 : Nat) : Int) = (k : Int) - 1 by omega]
        · show ((k : Int) - 1).toNat < ((k : Int)).toNat
          omega
      · walk_at "go"
        have f := fin (by rw [take_last h1' hk, strip_snoc _ h2])
        first
          | (rw [f]; exact h)
          | (refine ⟨_, rfl, ?_⟩; walk_at "go"; first | (rw [f]; exact h) | (refine ⟨_, rfl, ?_⟩; walk_at "go"; rw [f]; exact h))
    · walk_at "go"
      have e0 : k = 0 := by omega
      subst e0
      have f := fin rfl
      first
        | (rw [f]; exact h)
        | (refine ⟨_, rfl, ?_⟩; walk_at "go"; first | (rw [f]; exact h) | (refine ⟨_, rfl, ?_⟩; walk_at "go"; rw [f]; exact h))
/-! ### numbers -/
theorem is_number_of : BodyIs mask_number_of 4 b_number_of m_number_of := by
  intro ms R XR _ h
  unfold m_number_of at h
  obtain ⟨xs, b, rfl, hb0, hb, h⟩ := h
  walk_at "go"
  refine ⟨xs.reverse.map D.int, by rw [itM, List.map_reverse], ?_⟩
  walk_at "go"
  refine forL_by (fun i S => ∃ m, S = [.v (.tup (xs.map D.int)), .v (.int b), .v (.int ((xs.reverse.take i).foldl (fun n x => n * b + x) 0)), m]) ?_ ?_ _ ⟨_, rfl⟩
  · rintro i d S hK hd ⟨m, rfl⟩ hK2
    obtain ⟨x, hx, rfl⟩ := map_get hd
    walk_at "go"
    refine ⟨MulOk.right (by omega) (by omega), ?_⟩
    walk_at "go"
    refine hK2 _ ⟨.v (.int x), ?_⟩
    rw [take_succ' hx, List.foldl_append]
    rfl
  · rintro S ⟨m, rfl⟩
    walk_at "go"
    rw [List.length_map, List.take_length]
    exact h
theorem is__law_number : BodyIs mask__law_number 4 b__law_number m__law_number := by
  intro ms R XR _ h
  unfold m__law_number at h
  obtain ⟨xs, b, rfl, hb0, hb, h⟩ := h
  walk_at "go"
  refine ⟨xs.reverse.map D.int, by rw [itM, List.map_reverse], ?_⟩
  walk_at "go"
  refine forL_by (fun i S => ∃ m, S = [.v (.tup (xs.map D.int)), .v (.int b), .v (.int ((xs.reverse.take i).foldl (fun n x => n * b + x) 0)), m]) ?_ ?_ _ ⟨_, rfl⟩
  · rintro i d S hK hd ⟨m, rfl⟩ hK2
    obtain ⟨x, hx, rfl⟩ := map_get hd
    walk_at "go"
    refine ⟨MulOk.right (by omega) (by omega), ?_⟩
    walk_at "go"
    refine hK2 _ ⟨.v (.int x), ?_⟩
    rw [take_succ' hx, List.foldl_append]
    rfl
  · rintro S ⟨m, rfl⟩
    walk_at "go"
    rw [List.length_map, List.take_length]
    exact h
theorem strip_len (xs : List Int) : (strip xs).length ≤ xs.length := by
  unfold strip
  rw [List.length_reverse]
  exact Nat.le_trans (List.dropWhile_sublist _).length_le (by rw [List.length_reverse]; exact Nat.le_refl _)
theorem cut_takeN {α : Type} (xs : List α) (k : Nat) : cut xs none (some (k : Int)) = xs.take k := by
  unfold cut
  have e1 : HT.sIx xs.length 0 none = 0 := HT.sIx_none _ _
  have e2 : HT.sIx xs.length xs.length (some (k : Int)) = min k xs.length := HT.sIx_nat xs.length xs.length k
  rw [e1, e2, List.drop_zero, Nat.sub_zero]
  rcases Nat.le_total k xs.length with h | h
  · rw [Nat.min_eq_left h]
  · rw [Nat.min_eq_right h, List.take_of_length_le h, List.take_of_length_le (Nat.le_refl _)]
theorem syms_fuel {b : Nat} (hb : 2 ≤ b) : ∀ (f g n : Nat), n < f → n < g → syms b f n = syms b g n
  | 0, _, _, h, _ => absurd h (Nat.not_lt_zero _)
  | _, 0, _, _, h => absurd h (Nat.not_lt_zero _)
  | f + 1, g + 1, n, h1, h2 => by
    unfold syms
    by_cases e : n = 0
    · rw [if_pos e, if_pos e]
    · rw [if_neg e, if_neg e]
      have : n / b < n := Nat.div_lt_self (by omega) (by omega)
      rw [syms_fuel hb f g (n / b) (by omega) (by omega)]
theorem symsOf_step {b k : Nat} (hb : 2 ≤ b) (hk : 0 < k) : symsOf (b : Int) (k : Int) = ((k % b : Nat) : Int) :: symsOf (b : Int) ((k / b : Nat) : Int) := by
  show syms b (k + 1) k = _ :: syms b (k / b + 1) (k / b)
  have : k / b < k := Nat.div_lt_self (by omega) (by omega)
  rw [syms_fuel hb (k / b + 1) k (k / b) (by omega) this]
  conv => lhs; unfold syms
  rw [if_neg (by omega)]
theorem is__law_strip : BodyIs mask__law_strip 3 b__law_strip m__law_strip := by
  intro ms R XR _ h
  unfold m__law_strip at h
  obtain ⟨x, xs, rfl, hs, h0, h⟩ := h
  rcases sqV_cases hs with rfl | rfl | rfl
  all_goals
    walk_at "gx"
    refine forL_by (fun i S => ∃ (k : Nat) (m : M), S = [_, .v (.int k), m] ∧ k ≤ xs.length ∧ strip xs = strip (xs.take k) ∧ (k + i ≤ xs.length ∨ strip (xs.take k) = xs.take k)) ?_ ?_ _ ⟨xs.length, _, by rw [List.length_map]; rfl, Nat.le_refl _, by rw [List.take_length], .inl (Nat.le_refl _)⟩
    · rintro i d S Kx hd ⟨k, m, rfl, hk, e, hi⟩ hK
      walk_at "gx"
      refine iteP_d (fun h1 => ?_) (fun h1 => ?_)
      · have h1' : 0 < k := by omega
        have hl : k - 1 < xs.length := by omega
        walk_at "gx"
        refine ⟨_, _, rfl, atI_int (k := k - 1) (by omega) hl, ?_⟩
        walk_at "gx"
        refine iteP_d (fun h2 => ?_) (fun h2 => ?_)
        · walk_at "gx"
          refine hK _ ⟨k - 1, M.v d, ?_, by omega, ?_, .inl ?_⟩
          · rw [show ((k - 1 : Nat) : Int) = (k : Int) - 1 by omega]
          · rw [e, take_last h1' hk, h2, strip_snoc0]
          · rcases hi with hi | hi
            · omega
            · rw [take_last h1' hk, h2, strip_snoc0] at hi
              have q := congrArg List.length hi
              have w := strip_len (xs.take (k - 1))
              rw [List.length_append, List.length_singleton] at q
              omega
        · walk_at "gx"
          exact hK _ ⟨k, _, rfl, hk, e, .inr (by rw [take_last h1' hk, strip_snoc _ h2])⟩
      · walk_at "gx"
        have e0 : k = 0 := by omega
        subst e0
        exact hK _ ⟨0, _, rfl, hk, e, .inr rfl⟩
    · rintro S ⟨k, m, rfl, hk, e, hi⟩
      rw [rngD_len, List.length_map, Int.toNat_natCast] at hi
      have fin : cut (xs.map D.int) none (some (k : Int)) = (strip xs).map D.int := by
        rw [cut_take _ (by rw [List.length_map]; exact hk), ← List.map_take, e]
        rcases hi with hi | hi
        · have : k = 0 := by omega
          subst this
          rfl
        · rw [hi]
      walk_at "gx"
      rw [fin]
      exact h
theorem is_symbols_of : BodyIs mask_symbols_of 3 b_symbols_of m_symbols_of := by
  intro ms R XR _ h
  unfold m_symbols_of at h
  obtain ⟨n, b, rfl, hn0, hn, hb0, hb, h⟩ := h
  walk_at "gx"
  obtain ⟨n, rfl⟩ := Int.eq_ofNat_of_zero_le hn0
  obtain ⟨b, rfl⟩ := Int.eq_ofNat_of_zero_le (show 0 ≤ b by omega)
  have hN : n < 2 ^ 4000 := by exact_mod_cast hn
  refine wh_of (fun S => ∃ (k : Nat) (acc : List Int), S = [.v (.int k), .v (.int b), .ml (acc.map D.int)] ∧ k * 2 ^ acc.length ≤ n ∧ acc ++ symsOf b k = symsOf b n) (fun S => match S with | [.v (.int k), _, _] => k.toNat | _ => 0) ⟨n, [], rfl, by simp, rfl⟩ ?_
  rintro S ⟨k, acc, rfl, hk, e⟩ z ih
  walk_at "gx"
  refine iteP_d (fun h1 => ?_) (fun h1 => ?_)
  · have hlen : acc.length < 4000 := by
      refine Nat.lt_of_not_le fun q => ?_
      have q1 : 2 ^ 4000 ≤ 2 ^ acc.length := Nat.pow_le_pow_right (by decide) q
      have q2 : 2 ^ acc.length ≤ k * 2 ^ acc.length := Nat.le_mul_of_pos_left _ (by omega)
      omega
    walk_at "gx"
    refine ⟨by rw [List.length_map]; unfold sizeLine; omega, ?_⟩
    walk_at "gx"
    refine ih _ ⟨k / b, acc ++ [((k % b : Nat) : Int)], ?_, ?_, ?_⟩ ?_
    · rw [List.map_append]
      rfl
    · rw [List.length_append, List.length_singleton, Nat.pow_succ]
      have := Nat.div_mul_le_self k b
      have e2 : k / b * 2 ≤ k := Nat.le_trans (Nat.mul_le_mul_left _ (by omega)) this
      calc k / b * (2 ^ acc.length * 2) = (k / b * 2) * 2 ^ acc.length := by rw [Nat.mul_comm (2 ^ acc.length), Nat.mul_assoc]
        _ ≤ k * 2 ^ acc.length := Nat.mul_le_mul_right _ e2
        _ ≤ n := hk
    · rw [← e, List.append_assoc, symsOf_step (b := b) (k := k) (by omega) (by omega)]
      rfl
    · show ((k : Int) / (b : Int)).toNat < ((k : Int)).toNat
      rw [show ((k : Int) / (b : Int)).toNat = k / b from rfl]
      exact Nat.div_lt_self (by omega) (by omega)
  · walk_at "gx"
    have e0 : k = 0 := by omega
    subst e0
    rw [show acc = symsOf b n by rw [← e]; exact (List.append_nil _).symm]
    exact h _
theorem is_start : BodyIs mask_start 1 b_start m_start := by
  intro ms R XR _ h
  unfold m_start at h
  obtain ⟨xs, rfl, h0, h⟩ := h
  walk_at "gx"
  refine iteP_d (fun h1 => ?_) (fun h1 => ?_)
  · walk_at "gx"
    rw [List.length_map] at h1
    have e0 : xs = [] := List.eq_nil_of_length_eq_zero (by omega)
    subst e0
    exact h
  · cases xs with
    | nil => exact (h1 rfl).elim
    | cons x r =>
      walk_at "gx"
      unfold m_stripped
      refine ⟨_, r, rfl, ?_, ?_, ?_⟩
      · show sqV (.v (.tup (cut ((x :: r).map D.int) (some 1) none))) = _
        rw [cut_drop1]
        rfl
      · rw [List.length_cons] at h0
        omega
      · walk_at "gx"
        exact h
theorem is_content : BodyIs mask_content 6 b_content m_content := by
  intro ms R XR _ h
  unfold m_content at h
  obtain ⟨s, l, hh, r, rfl, h0, h1, h⟩ := h
  walk_at "gx"
  have e1 : (l.map D.int).reverse ++ fzs [M.v (D.int hh)] ++ r.map D.int = (l.reverse ++ [hh] ++ r).map D.int := by
    rw [List.map_append, List.map_append, List.map_reverse]
    rfl
  refine ⟨by rw [List.length_reverse, List.length_map]; show l.length + 1 ≤ 2 ^ 24; omega, ?_⟩
  walk_at "gx"
  refine ⟨by rw [List.length_append, List.length_reverse, List.length_map, List.length_map]; show l.length + 1 + r.length ≤ 2 ^ 24; omega, ?_⟩
  walk_at "gx"
  unfold m_stripped
  refine ⟨_, _, rfl, congrArg some e1, ?_, ?_⟩
  · rw [List.length_append, List.length_append, List.length_reverse, List.length_singleton]
    omega
  walk_at "gx"
  have q := strip_len (l.reverse ++ [hh] ++ r)
  rw [List.length_append, List.length_append, List.length_reverse, List.length_singleton] at q
  refine ⟨_, (strip (l.reverse ++ [hh] ++ r)).reverse, rfl, congrArg some List.map_reverse.symm, ?_, ?_⟩
  · rw [List.length_reverse]
    omega
  walk_at "gx"
  rw [← List.map_reverse]
  exact h
theorem is__law_pool : BodyIs mask__law_pool 3 b__law_pool m__law_pool := by
  intro ms R XR _ h
  unfold m__law_pool at h
  obtain ⟨ns, h0, rfl, h⟩ := h
  walk_at "gx"
  refine forL_by (fun i S => ∃ (c : Int) (m : M), S = [.v (.lst (ns.map D.int)), .v (.int c), m]) ?_ ?_ _ ⟨7, _, rfl⟩
  · rintro i d S Kx hd ⟨c, m, rfl⟩ hK
    have hd' : d ∈ ns.map D.int := List.mem_of_mem_take (List.mem_of_getElem? (by rw [← cut_takeN _ 63]; exact hd))
    obtain ⟨x, _, rfl⟩ := List.mem_map.mp hd'
    walk_at "gx"
    exact hK _ ⟨_, _, rfl⟩
  · rintro S ⟨c, m, rfl⟩
    walk_at "gx"
    refine h _ ?_
    exact ⟨ns, 0, 0, 0, c, h0, by omega, by omega, rfl⟩
theorem is__law_spread : BodyIs mask__law_spread 4 b__law_spread m__law_spread := by
  intro ms R XR _ h
  unfold m__law_spread at h
  obtain ⟨c, rfl, h⟩ := h
  walk_at "gx"
  refine forL_by (fun i S => ∃ (a t : Int) (m : M), S = [.v (.int c), .v (.int a), .v (.int t), m]) ?_ ?_ _ ⟨_, _, _, rfl⟩
  · rintro i d S Kx hd ⟨a, t, m, rfl⟩ hK
    obtain ⟨hi, rfl⟩ := rngD_get hd
    walk_at "gx"
    exact hK _ ⟨_, _, _, rfl⟩
  · rintro S ⟨a, t, m, rfl⟩
    walk_at "gx"
    exact h _
theorem is__law_draw : BodyIs mask__law_draw 5 b__law_draw m__law_draw := by
  intro ms R XR _ h
  unfold m__law_draw at h
  obtain ⟨p, m, rfl, ⟨ns, a, b, c, d, hns, ha0, ha, rfl⟩, hm, hm2, h⟩ := h
  walk_at "gx"
  have fin : ∀ (z a b c d : Int) (p : List D), 0 ≤ a → a ≤ 1000 → p = [.lst (ns.map D.int), .int a, .int b, .int c, .int d] → R (.v (.int (z % m))) [.ml p, .v (.int m)] := fun z a b c d p h1 h2 e =>
    h _ _ (Int.emod_nonneg _ (by omega)) (Int.emod_lt_of_pos _ hm) ⟨ns, a, b, c, d, hns, h1, h2, e⟩
  refine iteP_d (fun h1 => ?_) (fun h1 => ?_)
  · walk_at "gx"
    refine iteP_d (fun h2 => ?_) (fun h2 => ?_)
    · rw [List.length_map] at h2
      have hl : a.toNat < ns.length := by omega
      walk_at "gx"
      refine ⟨_, _, rfl, atI_int (k := a.toNat) (by omega) hl, ?_⟩
      walk_at "gx"
      refine iteP_d (fun h3 => ?_) (fun h3 => ?_)
      · walk_at "gx"
        unfold m__law_spread
        refine ⟨_, rfl, fun z => ?_⟩
        walk_at "gx"
        refine iteP_d (fun h4 => ?_) (fun h4 => ?_)
        · first | (exfalso; omega) | skip
          walk_at "gx"
          exact fin _ (a + 1) _ _ _ _ (by omega) (by omega) rfl
        · walk_at "gx"
          exact fin _ (a + 1) _ _ _ _ (by omega) (by omega) rfl
      · walk_at "gx"
        refine iteP_d (fun h4 => ?_) (fun h4 => ?_)
        · exfalso; omega
        · walk_at "gx"
          exact fin _ (a + 1) _ _ _ _ (by omega) (by omega) rfl
    · walk_at "gx"
      refine iteP_d (fun h4 => ?_) (fun h4 => ?_)
      · walk_at "gx"
        exact fin _ a _ _ _ _ (by omega) (by omega) rfl
      · exact absurd h1 h4
  · walk_at "gx"
    refine iteP_d (fun h4 => ?_) (fun h4 => ?_)
    · exact absurd h4 h1
    · walk_at "gx"
      exact fin _ a _ _ _ _ (by omega) (by omega) rfl
/-! ### comparisons of tuples of ints -/
theorem pyDs_ints : ∀ xs : List Int, pyDs (xs.map D.int) = some (xs.map PyData.int)
  | [] => rfl
  | x :: xs => by
    show (match pyD (.int x), pyDs (xs.map D.int) with | some p, some ps => some (p :: ps) | _, _ => none) = _
    rw [pyDs_ints xs]
    rfl
theorem pyI (xs : List Int) : pyD (.tup (xs.map D.int)) = some (.tuple (xs.map PyData.int)) := by
  show (pyDs (xs.map D.int)).map PyData.tuple = _
  rw [pyDs_ints]
  rfl
theorem lay_ints : ∀ xs : List Int, PyData.canLayAll0 (xs.map PyData.int) = true
  | [] => rfl
  | x :: xs => by
    show (PyData.canLay0 (.int x) && PyData.canLayAll0 (xs.map PyData.int)) = true
    rw [lay_ints xs]
    rfl
theorem depth_ints : ∀ xs : List Int, PyData.depthAll (xs.map PyData.int) = 0
  | [] => rfl
  | x :: xs => by
    show max (PyData.depth (.int x)) (PyData.depthAll (xs.map PyData.int)) = 0
    rw [depth_ints xs]
    rfl
theorem shapedI (xs : List Int) : SeqAt.shaped (.tuple (xs.map PyData.int)) = true := by
  unfold SeqAt.shaped
  rw [show PyData.canLay0 (.tuple (xs.map PyData.int)) = PyData.canLayAll0 (xs.map PyData.int) from rfl, lay_ints]
  rw [show PyData.depth (.tuple (xs.map PyData.int)) = PyData.depthAll (xs.map PyData.int) + 1 from rfl, depth_ints]
  rfl
theorem eqv_ints : ∀ xs ys : List Int, PyData.eqvAll (xs.map PyData.int) (ys.map PyData.int) = decide (xs = ys)
  | [], [] => rfl
  | [], _ :: _ => rfl
  | _ :: _, [] => rfl
  | x :: xs, y :: ys => by
    show ((x == y) && PyData.eqvAll (xs.map PyData.int) (ys.map PyData.int)) = _
    rw [eqv_ints xs ys]
    by_cases h1 : x = y
    · by_cases h2 : xs = ys
      · simp [h1, h2]
      · simp [h1, h2]
    · simp [h1]
theorem eqvI (xs ys : List Int) : PyData.eqv (.tuple (xs.map PyData.int)) (.tuple (ys.map PyData.int)) = decide (xs = ys) := by
  rw [← eqv_ints]
  simp only [PyData.eqv]
theorem neB_ints {xs ys : List Int} {R : RMx} (h : R (.v (.bl (!decide (xs = ys)))) [.v (.tup (xs.map D.int)), .v (.tup (ys.map D.int))]) : neB [.v (.tup (xs.map D.int)), .v (.tup (ys.map D.int))] R :=
  ⟨_, _, pyI xs, pyI ys, shapedI xs, shapedI ys, by rw [eqvI]; exact h⟩
/-! ### strip, numbers -/
theorem strip_self : ∀ (n : Nat) (xs : List Int), xs.length = n → strip (strip xs) = strip xs
  | 0, xs, h => by
    have e : xs = [] := List.eq_nil_of_length_eq_zero h
    subst e
    rfl
  | n + 1, xs, h => by
    have hx : xs ≠ [] := fun e => by rw [e] at h; cases h
    have e := List.dropLast_concat_getLast hx
    rw [← e]
    by_cases z : xs.getLast hx = 0
    · rw [z, strip_snoc0]
      exact strip_self n _ (by rw [List.length_dropLast]; omega)
    · rw [strip_snoc _ z, strip_snoc _ z]
theorem strip_strip (xs : List Int) : strip (strip xs) = strip xs := strip_self _ xs rfl
theorem strip_cons : ∀ (n : Nat) (x : Int) (xs : List Int), xs.length = n → strip (x :: strip xs) = strip (x :: xs)
  | 0, x, xs, h => by
    have e : xs = [] := List.eq_nil_of_length_eq_zero h
    subst e
    rfl
  | n + 1, x, xs, h => by
    have hx : xs ≠ [] := fun e => by rw [e] at h; cases h
    have e := List.dropLast_concat_getLast hx
    rw [← e]
    by_cases z : xs.getLast hx = 0
    · rw [z, strip_snoc0, ← List.cons_append, strip_snoc0]
      exact strip_cons n x _ (by rw [List.length_dropLast]; omega)
    · rw [strip_snoc _ z]
theorem strip_mem {xs : List Int} {x : Int} (h : x ∈ strip xs) : x ∈ xs := by
  unfold strip at h
  exact List.mem_reverse.mp ((List.dropWhile_sublist _).subset (List.mem_reverse.mp h))
theorem num_nil (b : Int) : num b [] = 0 := rfl
theorem num_cons (b x : Int) (xs : List Int) : num b (x :: xs) = num b xs * b + x := by
  unfold num
  rw [List.reverse_cons, List.foldl_append]
  rfl
def WordOk (b : Int) (xs : List Int) : Prop := ∀ x ∈ xs, 0 ≤ x ∧ x < b
theorem num_nonneg {b : Int} (hb : 2 ≤ b) : ∀ {xs : List Int}, WordOk b xs → 0 ≤ num b xs
  | [], _ => Int.le_refl _
  | x :: xs, h => by
    rw [num_cons]
    have h1 := num_nonneg hb (xs := xs) fun y hy => h y (List.mem_cons_of_mem _ hy)
    have h2 := (h x List.mem_cons_self).1
    have := Int.mul_nonneg h1 (show (0 : Int) ≤ b by omega)
    omega
theorem num_lt {b c : Int} (hb : 2 ≤ b) (hc : b ≤ c) : ∀ {xs : List Int}, WordOk b xs → num b xs < c ^ xs.length
  | [], _ => by
    show (0 : Int) < c ^ 0
    rw [Int.pow_zero]
    decide
  | x :: xs, h => by
    rw [num_cons, List.length_cons, Int.pow_succ]
    have h1 := num_lt hb hc (xs := xs) fun y hy => h y (List.mem_cons_of_mem _ hy)
    have h0 := num_nonneg hb (xs := xs) fun y hy => h y (List.mem_cons_of_mem _ hy)
    have h2 := (h x List.mem_cons_self).2
    have h3 : (num b xs + 1) * c ≤ c ^ xs.length * c := Int.mul_le_mul_of_nonneg_right (by omega) (by omega)
    have h4 : (num b xs + 1) * b ≤ (num b xs + 1) * c := Int.mul_le_mul_of_nonneg_left hc (by omega)
    rw [Int.add_mul] at h4
    omega
theorem symsOf_zero (b : Int) : symsOf b 0 = [] := rfl
theorem symsOf_cons {b x n : Int} (hb : 2 ≤ b) (hx : 0 ≤ x) (hx2 : x < b) (hn : 0 ≤ n) (hp : 0 < n * b + x) : symsOf b (n * b + x) = x :: symsOf b n := by
  obtain ⟨b', rfl⟩ := Int.eq_ofNat_of_zero_le (show 0 ≤ b by omega)
  obtain ⟨n', rfl⟩ := Int.eq_ofNat_of_zero_le hn
  obtain ⟨x', rfl⟩ := Int.eq_ofNat_of_zero_le hx
  have e : (n' : Int) * (b' : Int) + (x' : Int) = ((n' * b' + x' : Nat) : Int) := by push_cast; rfl
  rw [e] at hp ⊢
  have hb' : 2 ≤ b' := by omega
  have hx' : x' < b' := by omega
  rw [symsOf_step hb' (by omega)]
  have m1 : (n' * b' + x') % b' = x' := by rw [Nat.mul_comm, Nat.mul_add_mod, Nat.mod_eq_of_lt hx']
  have m2 : (n' * b' + x') / b' = n' := by rw [Nat.mul_comm, Nat.mul_add_div (by omega), Nat.div_eq_of_lt hx', Nat.add_zero]
  rw [m1, m2]
theorem strip_cons_zero {xs : List Int} {x : Int} : strip (x :: xs) = if strip xs = [] ∧ x = 0 then [] else x :: strip xs := by
  rw [← strip_cons _ x xs rfl]
  by_cases h : strip xs = []
  · rw [h]
    by_cases hx : x = 0
    · rw [if_pos ⟨rfl, hx⟩, hx]
      rfl
    · rw [if_neg (fun q => hx q.2)]
      exact strip_snoc [] hx
  · rw [if_neg (fun q => h q.1)]
    have e := List.dropLast_concat_getLast h
    have z : (strip xs).getLast h ≠ 0 := by
      intro z
      have q : strip (strip xs) = strip xs := strip_strip xs
      rw [← e, z, strip_snoc0] at q
      have l := congrArg List.length q
      have w := strip_len ((strip xs).dropLast)
      rw [List.length_append, List.length_singleton] at l
      omega
    conv => lhs; rw [← e, ← List.cons_append]
    rw [strip_snoc _ z, List.cons_append, e]
theorem syms_num {b : Int} (hb : 2 ≤ b) : ∀ {xs : List Int}, WordOk b xs → symsOf b (num b xs) = strip xs ∧ (strip xs = [] ↔ num b xs = 0)
  | [], _ => ⟨rfl, ⟨fun _ => rfl, fun _ => rfl⟩⟩
  | x :: xs, h => by
    have hw : WordOk b xs := fun y hy => h y (List.mem_cons_of_mem _ hy)
    obtain ⟨h1, h2⟩ := syms_num hb hw
    have hx := h x List.mem_cons_self
    have hn := num_nonneg hb hw
    have hm := Int.mul_nonneg hn (show (0 : Int) ≤ b by omega)
    rw [num_cons, strip_cons_zero]
    by_cases q : strip xs = [] ∧ x = 0
    · rw [if_pos q, h2.mp q.1, q.2]
      exact ⟨by rw [Int.zero_mul]; rfl, by simp⟩
    · rw [if_neg q]
      have hp : 0 < num b xs * b + x := by
        rcases Int.lt_or_eq_of_le hx.1 with z | z
        · omega
        · have : num b xs ≠ 0 := fun e => q ⟨h2.mpr e, z.symm⟩
          have := Int.mul_pos (show 0 < num b xs by omega) (show 0 < b by omega)
          omega
      rw [symsOf_cons hb hx.1 hx.2 hn hp, h1]
      exact ⟨rfl, ⟨(fun e => nomatch e), fun e => absurd e (by omega)⟩⟩
theorem num_syms (b : Nat) (hb : 2 ≤ b) : ∀ (f n : Nat), n < f → num b (syms b f n) = n ∧ WordOk b (syms b f n) ∧ strip (syms b f n) = syms b f n
  | 0, _, h => absurd h (Nat.not_lt_zero _)
  | f + 1, n, h => by
    unfold syms
    by_cases e : n = 0
    · rw [if_pos e, e]
      exact ⟨rfl, fun x hx => (List.not_mem_nil hx).elim, rfl⟩
    · rw [if_neg e]
      have hd : n / b < n := Nat.div_lt_self (by omega) (by omega)
      obtain ⟨h1, h2, h3⟩ := num_syms b hb f (n / b) (by omega)
      refine ⟨?_, fun x hx => ?_, ?_⟩
      · rw [num_cons, h1]
        have := Nat.div_add_mod' n b
        exact_mod_cast this
      · rcases List.mem_cons.mp hx with rfl | hx
        · have := Nat.mod_lt n (show 0 < b by omega)
          omega
        · exact h2 x hx
      · rw [strip_cons_zero, if_neg, h3]
        rintro ⟨q1, q2⟩
        rw [h3] at q1
        have z : n / b = 0 := by
          have := h1
          rw [q1, num_nil] at this
          omega
        have := Nat.div_add_mod' n b
        rw [z] at this
        omega
theorem small_big {n : Int} {k : Nat} (h : n < 10000 ^ k) (hk : k ≤ 16) : n < 2 ^ 4000 := by
  have h1 : (10000 : Int) ^ k ≤ 10000 ^ 16 := by exact_mod_cast Nat.pow_le_pow_right (show 0 < 10000 by decide) hk
  have h2 : (10000 : Int) ^ 16 < 2 ^ 256 := by decide
  have h3 : (2 : Int) ^ 256 ≤ 2 ^ 4000 := by exact_mod_cast Nat.pow_le_pow_right (show 0 < 2 by decide) (show 256 ≤ 4000 by decide)
  exact Int.lt_of_lt_of_le (Int.lt_of_lt_of_le h (Int.le_trans h1 (Int.le_of_lt h2))) h3
theorem start_conf (ws : List Int) : startD ws = confD 0 [] (ws.headD 0) (strip ws.tail) := by
  cases ws <;> rfl
theorem content_start (ws : List Int) : content [] (ws.headD 0) (strip ws.tail) = (strip (strip ws).reverse).reverse := by
  cases ws with
  | nil => rfl
  | cons x r =>
    show (strip (strip ([] ++ [x] ++ strip r)).reverse).reverse = _
    rw [List.nil_append, List.singleton_append, strip_cons _ x r rfl]
theorem syms_len {b : Nat} (hb : 2 ≤ b) : ∀ (f k n : Nat), n < 2 ^ k → (syms b f n).length ≤ k
  | 0, _, _, _ => Nat.zero_le _
  | f + 1, k, n, h => by
    unfold syms
    by_cases e : n = 0
    · rw [if_pos e]
      exact Nat.zero_le _
    · rw [if_neg e, List.length_cons]
      cases k with
      | zero => exact absurd h (by rw [Nat.pow_zero]; omega)
      | succ k =>
        rw [Nat.pow_succ] at h
        have q : n / b ≤ n / 2 := Nat.div_le_div_left hb (by decide)
        have := syms_len hb f k (n / b) (by omega)
        omega
theorem asM_cases {a : M} {d : D} (h : asM a = some d) : a = .v d ∨ ∃ ds, d = .lst ds ∧ a = .ml ds := by
  unfold asM at h
  split at h
  · cases h; exact .inl rfl
  · cases h; exact .inr ⟨_, rfl, rfl⟩
  · cases h
theorem deps_get {n : Nat} : ∀ {ds : List D} {i : Nat} {d : D}, deps n ds = true → ds[i]? = some d → dep n d = true
  | [], _, _, _, h => nomatch h
  | e :: ds, 0, _, h, g => by
    cases g
    unfold deps at h
    exact (Bool.and_eq_true_iff.mp h).1
  | e :: ds, i + 1, d, h, g => by
    unfold deps at h
    exact deps_get (Bool.and_eq_true_iff.mp h).2 g
theorem bls_true : ∀ n : Nat, blsV (List.replicate n (D.bl true)) = some (List.replicate n true)
  | 0 => rfl
  | n + 1 => by
    rw [List.replicate_succ, List.replicate_succ]
    unfold blsV
    rw [bls_true n]
    rfl
theorem all_true : ∀ n : Nat, (List.replicate n true).all id = true
  | 0 => rfl
  | n + 1 => by
    rw [List.replicate_succ, List.all_cons, all_true n]
    rfl
theorem int_eta (i : Nat) : (0 : Int) + (i : Int) * 1 = (i : Int) := by omega
theorem like_sq (n : Nat) (a b : M) (ds : List D) (R : RMx) (XR : XM) (ha : (a = .v (.tup ds) ∧ b = .v (.tup ds)) ∨ ((a = .v (.lst ds) ∨ a = .ml ds) ∧ (b = .v (.lst ds) ∨ b = .ml ds))) (hl : ds.length ≤ 100000) (h : R (.v (.bl true)) [a, b]) (hn : ∀ (i : Nat) (d : D) (R : RMx) (XR : XM), ds[i]? = some d → R (.v (.bl true)) [.v d, .v d] → m__law_like n [.v d, .v d] R XR) : b__law_like (m__law_like n) (bodyE mask__law_like R XR) [a, b, .gone] := by
  rcases ha with ⟨rfl, rfl⟩ | ⟨rfl | rfl, rfl | rfl⟩
  all_goals
    walk_at "gx"
    refine iteP_neg (by rw [decide_eq_false (by omega)]) ?_
    walk_at "gx"
    refine lcL_by (fun i acc S => acc = List.replicate i (.bl true) ∧ S = [_, _, .gone]) ?_ ?_ _ _ ⟨rfl, rfl⟩
    · rintro i d acc S Kx hd ⟨rfl, rfl⟩ hK
      obtain ⟨hi, rfl⟩ := rngD_get hd
      rw [Int.toNat_natCast] at hi
      walk_at "gx"
      have e1 : atI ds (0 + (i : Int) * 1) = some ds[i] := by
        rw [int_eta]
        exact L2.atI_nat (List.getElem?_eq_getElem hi)
      refine ⟨_, _, rfl, e1, ?_⟩
      walk_at "gx"
      refine ⟨_, _, rfl, e1, ?_⟩
      walk_at "gx"
      refine hn i _ _ _ (List.getElem?_eq_getElem hi) ?_
      walk_at "gx"
      refine ⟨by rw [List.length_replicate]; unfold sizeLine; omega, ?_⟩
      refine hK _ _ ⟨?_, rfl⟩
      rw [List.replicate_succ']
    · rintro acc S ⟨rfl, rfl⟩
      walk_at "gx"
      rw [rngD_len, Int.toNat_natCast]
      refine ⟨_, _, rfl, bls_true _, ?_⟩
      rw [all_true]
      walk_at "gx"
      exact h
theorem like_hn {n : Nat} {ds : List D} (h : (decide (ds.length ≤ 100000) && deps n ds) = true) : ds.length ≤ 100000 ∧ ∀ (i : Nat) (d : D) (R : RMx) (XR : XM), ds[i]? = some d → R (.v (.bl true)) [.v d, .v d] → m__law_like n [.v d, .v d] R XR := by
  obtain ⟨h1, h2⟩ := Bool.and_eq_true_iff.mp h
  refine ⟨of_decide_eq_true h1, fun i d R XR hg hR => ?_⟩
  have q := deps_get h2 hg
  cases n with
  | zero => exact absurd q (by unfold dep; decide)
  | succ n =>
    unfold m__law_like
    exact ⟨_, _, d, rfl, rfl, rfl, q, hR⟩
theorem is__law_like (n : Nat) : BodyIs mask__law_like 3 (b__law_like (m__law_like n)) (m__law_like (n + 1)) := by
  intro ms R XR _ h
  unfold m__law_like at h
  obtain ⟨a, b, d, rfl, ha, hb, hd, h⟩ := h
  show b__law_like (m__law_like n) (bodyE mask__law_like R XR) [a, b, .gone]
  cases d with
  | non =>
    rcases asM_cases ha with rfl | ⟨_, q, rfl⟩
    · rcases asM_cases hb with rfl | ⟨_, q, rfl⟩
      · walk_at "gx"
        exact h
      · cases q
    · cases q
  | bl x =>
    rcases asM_cases ha with rfl | ⟨_, q, rfl⟩
    · rcases asM_cases hb with rfl | ⟨_, q, rfl⟩
      · walk_at "gx"
        rw [decide_eq_true rfl]
        exact h
      · cases q
    · cases q
  | int x =>
    rcases asM_cases ha with rfl | ⟨_, q, rfl⟩
    · rcases asM_cases hb with rfl | ⟨_, q, rfl⟩
      · walk_at "gx"
        rw [decide_eq_true rfl]
        exact h
      · cases q
    · cases q
  | str x =>
    rcases asM_cases ha with rfl | ⟨_, q, rfl⟩
    · rcases asM_cases hb with rfl | ⟨_, q, rfl⟩
      · walk_at "gx"
        rw [decide_eq_true rfl]
        exact h
      · cases q
    · cases q
  | tup ds =>
    rcases asM_cases ha with rfl | ⟨_, q, rfl⟩
    · rcases asM_cases hb with rfl | ⟨_, q, rfl⟩
      · unfold dep at hd
        obtain ⟨h1, h2⟩ := like_hn hd
        exact like_sq n _ _ ds R XR (.inl ⟨rfl, rfl⟩) h1 h h2
      · cases q
    · cases q
  | lst ds =>
    unfold dep at hd
    obtain ⟨h1, h2⟩ := like_hn hd
    refine like_sq n _ _ ds R XR (.inr ⟨?_, ?_⟩) h1 h h2
    · rcases asM_cases ha with rfl | ⟨_, q, rfl⟩
      · exact .inl rfl
      · cases q
        exact .inr rfl
    · rcases asM_cases hb with rfl | ⟨_, q, rfl⟩
      · exact .inl rfl
      · cases q
        exact .inr rfl
  | ty x => cases hd
  | ptr x => cases hd
  | dK x y => cases hd
  | dT x y => cases hd
  | obj x y z => cases hd
/-! ### calls -/
theorem c_pool {ns : List Int} {R : RMx} {XR : XM} (hl : ns.length ≤ 63) (h : ∀ p, PoolOk p → R (.ml p) [.v (.lst (ns.map D.int))]) : m__law_pool [.v (.lst (ns.map D.int))] R XR := by
  unfold m__law_pool
  exact ⟨ns, hl, rfl, h⟩
theorem c_draw {p : List D} {m : Int} {R : RMx} {XR : XM} (hp : PoolOk p) (h1 : 0 < m) (h2 : m < 2 ^ 62) (h : ∀ z p', 0 ≤ z → z < m → PoolOk p' → R (.v (.int z)) [.ml p', .v (.int m)]) : m__law_draw [.ml p, .v (.int m)] R XR := by
  unfold m__law_draw
  exact ⟨p, m, rfl, hp, h1, h2, h⟩
theorem c_strip {x : M} {xs : List Int} {R : RMx} {XR : XM} (hs : sqV x = some (xs.map D.int)) (hl : xs.length ≤ 100000) (h : R (.v (.tup ((strip xs).map D.int))) [x]) : m__law_strip [x] R XR := by
  unfold m__law_strip
  exact ⟨x, xs, rfl, hs, hl, h⟩
theorem c_start {xs : List Int} {R : RMx} {XR : XM} (hl : xs.length ≤ 100000) (h : R (.v (startD xs)) [.v (.tup (xs.map D.int))]) : m_start [.v (.tup (xs.map D.int))] R XR := by
  unfold m_start
  exact ⟨xs, rfl, hl, h⟩
theorem c_content {s : Int} {l : List Int} {hh : Int} {r : List Int} {d : D} {R : RMx} {XR : XM} (e : d = confD s l hh r) (h1 : l.length ≤ 10000) (h2 : r.length ≤ 10000) (h : R (.v (.tup ((content l hh r).map D.int))) [.v d]) : m_content [.v d] R XR := by
  subst e
  unfold m_content
  exact ⟨s, l, hh, r, rfl, h1, h2, h⟩
theorem c_numL {xs : List Int} {b : Int} {R : RMx} {XR : XM} (h0 : 0 ≤ b) (h1 : b < 2 ^ 62) (h : R (.v (.int (num b xs))) [.v (.tup (xs.map D.int)), .v (.int b)]) : m__law_number [.v (.tup (xs.map D.int)), .v (.int b)] R XR := by
  unfold m__law_number
  exact ⟨xs, b, rfl, h0, h1, h⟩
theorem c_num {xs : List Int} {b : Int} {R : RMx} {XR : XM} (h0 : 0 ≤ b) (h1 : b < 2 ^ 62) (h : R (.v (.int (num b xs))) [.v (.tup (xs.map D.int)), .v (.int b)]) : m_number_of [.v (.tup (xs.map D.int)), .v (.int b)] R XR := by
  unfold m_number_of
  exact ⟨xs, b, rfl, h0, h1, h⟩
theorem c_syms {n b : Int} {R : RMx} {XR : XM} (h0 : 0 ≤ n) (h1 : n < 2 ^ 4000) (h2 : 2 ≤ b) (h3 : b < 2 ^ 62) (h : ∀ x, R (.v (.tup ((symsOf b n).map D.int))) [x, .v (.int b)]) : m_symbols_of [.v (.int n), .v (.int b)] R XR := by
  unfold m_symbols_of
  exact ⟨n, b, rfl, h0, h1, h2, h3, h⟩
theorem c_like {n : Nat} {a b : M} {d : D} {R : RMx} {XR : XM} (ha : asM a = some d) (hb : asM b = some d) (hd : dep (n + 1) d = true) (h : R (.v (.bl true)) [a, b]) : m__law_like (n + 1) [a, b] R XR := by
  unfold m__law_like
  exact ⟨a, b, d, rfl, ha, hb, hd, h⟩
theorem dep_int {n : Nat} {i : Int} : dep (n + 1) (.int i) = true := rfl
theorem deps_ints {n : Nat} : ∀ xs : List Int, deps (n + 1) (xs.map D.int) = true
  | [] => rfl
  | x :: xs => by
    show (dep (n + 1) (.int x) && deps (n + 1) (xs.map D.int)) = true
    rw [deps_ints xs]
    rfl
theorem dep_tupI {n : Nat} {xs : List Int} (h : xs.length ≤ 100000) : dep (n + 2) (.tup (xs.map D.int)) = true := by
  show (decide ((xs.map D.int).length ≤ 100000) && deps (n + 1) (xs.map D.int)) = true
  rw [deps_ints, List.length_map, decide_eq_true h]
  rfl
theorem dep_conf {n : Nat} {s : Int} {l : List Int} {h : Int} {r : List Int} (h1 : l.length ≤ 100000) (h2 : r.length ≤ 100000) : dep (n + 3) (confD s l h r) = true := by
  show (decide (4 ≤ 100000) && (dep (n + 2) (.int s) && (dep (n + 2) (.tup (l.map D.int)) && (dep (n + 2) (.int h) && (dep (n + 2) (.tup (r.map D.int)) && true))))) = true
  rw [dep_tupI h1, dep_tupI h2]
  rfl
theorem law3 {R : RMx} {XR : XM} {ns : List Int} {p : List D} {b : Int} {ws ls rs : List Int} {hh : Int} {due : M} (h : ∀ (ms' : List M), R (M.v (D.bl true)) ms') (hp : PoolOk p) (hb2 : 2 ≤ b) (hb4 : b ≤ 400) (hl' : ws.length ≤ 10) (hw : WordOk b ws) (h1 : ls.length ≤ 5) (h2 : rs.length ≤ 5) :
    b_law_9 (bodyE mask_law R XR) [.v (.lst (ns.map D.int)), .ml p, .v (.int b), .v (.tup (ws.map D.int)), due, .v (.tup (ls.map D.int)), .v (.tup (rs.map D.int)), .v (.int hh), .gone, .gone, .gone, .gone, .gone, .gone] := by
  walk_at "gx"
  have e1 : (ls.map D.int).reverse ++ fzs [M.v (D.int hh)] ++ rs.map D.int = (ls.reverse ++ [hh] ++ rs).map D.int := by
    rw [List.map_append, List.map_append, List.map_reverse]
    rfl
  have hT : (ls.reverse ++ [hh] ++ rs).length ≤ 11 := by
    rw [List.length_append, List.length_append, List.length_reverse, List.length_singleton]
    omega
  refine ⟨by rw [List.length_reverse, List.length_map]; show ls.length + 1 ≤ 2 ^ 24; omega, ?_⟩
  walk_at "gx"
  refine ⟨by rw [List.length_append, List.length_reverse, List.length_map, List.length_map]; show ls.length + 1 + rs.length ≤ 2 ^ 24; omega, ?_⟩
  walk_at "gx"
  refine c_strip (congrArg some e1) (by omega) ?_
  walk_at "gx"
  refine c_draw hp (by decide) (by decide) fun z p hz0 hz1 hp => ?_
  walk_at "gx"
  refine c_content (l := ls) (hh := hh) (r := rs) rfl (by omega) (by omega) ?_
  walk_at "gx"
  have q1 := strip_len (ls.reverse ++ [hh] ++ rs)
  have q2 := strip_len (strip (ls.reverse ++ [hh] ++ rs)).reverse
  rw [List.length_reverse] at q2
  refine c_strip (xs := (strip (ls.reverse ++ [hh] ++ rs)).reverse) (congrArg some List.map_reverse.symm) (by rw [List.length_reverse]; omega) ?_
  walk_at "gx"
  refine c_like (n := 7) (d := .tup ((content ls hh rs).map D.int)) rfl (congrArg (fun x => some (D.tup x)) List.map_reverse.symm) (dep_tupI (by unfold content; rw [List.length_reverse]; omega)) ?_
  walk_at "gx"
  have hw1 := strip_len ws
  have hw2 := strip_len (strip ws).reverse
  have hw3 := strip_len ws.tail
  rw [List.length_reverse] at hw2
  rw [List.length_tail] at hw3
  refine c_start (by omega) ?_
  walk_at "gx"
  refine c_content (l := []) (hh := ws.headD 0) (r := strip ws.tail) (start_conf ws) (Nat.zero_le _) (by omega) ?_
  rw [content_start]
  walk_at "gx"
  refine c_strip (xs := ws) rfl (by omega) ?_
  walk_at "gx"
  refine c_strip (xs := (strip ws).reverse) (congrArg some List.map_reverse.symm) (by rw [List.length_reverse]; omega) ?_
  walk_at "gx"
  refine c_like (n := 7) (d := .tup (((strip (strip ws).reverse).reverse).map D.int)) rfl (congrArg (fun x => some (D.tup x)) List.map_reverse.symm) (dep_tupI (by rw [List.length_reverse]; omega)) ?_
  walk_at "gx"
  have n0 := num_nonneg hb2 hw
  have n1 := num_lt hb2 (c := 10000) (by omega) hw
  have n2 := small_big n1 (by omega)
  refine c_numL (by omega) (by omega) ?_
  walk_at "gx"
  refine c_num (by omega) (by omega) ?_
  walk_at "gx"
  refine c_like (n := 7) (d := .int (num b ws)) rfl rfl rfl ?_
  walk_at "gx"
  refine c_syms n0 n2 hb2 (by omega) fun x => ?_
  rw [(syms_num hb2 hw).1]
  walk_at "gx"
  refine c_strip (xs := ws) rfl (by omega) ?_
  walk_at "gx"
  refine c_like (n := 7) (d := .tup ((strip ws).map D.int)) rfl rfl (dep_tupI (by omega)) ?_
  walk_at "gx"
  refine c_draw hp (by decide) (by decide) fun w p hw0 hw1 hp => ?_
  walk_at "gx"
  refine forL_by (fun i S => ∃ (g : Int) (p : List D) (m : M), 0 ≤ g ∧ g < 10000 ^ i ∧ PoolOk p ∧ S = [.v (.lst (ns.map D.int)), .ml p, .v (.int b), _, _, _, _, _, _, _, .v (.int g), m, .gone, .gone]) ?_ ?_ _ ⟨0, p, _, Int.le_refl _, by decide, hp, rfl⟩
  · rintro i d S Kx hd ⟨g, p, m, g0, g1, hp, rfl⟩ hK
    obtain ⟨hi, rfl⟩ := rngD_get hd
    walk_at "gx"
    refine c_draw hp (by decide) (by decide) fun y p hy0 hy1 hp => ?_
    walk_at "gx"
    refine hK _ ⟨_, p, _, ?_, ?_, hp, rfl⟩
    · omega
    · rw [Int.pow_succ]
      omega
  rintro S ⟨g, p, m, g0, g1, hp, rfl⟩
  rw [rngD_len] at g1
  have g2 := small_big g1 (by omega)
  walk_at "gx"
  refine c_syms g0 g2 hb2 (by omega) fun x => ?_
  obtain ⟨n, rfl⟩ := Int.eq_ofNat_of_zero_le g0
  obtain ⟨b, rfl⟩ := Int.eq_ofNat_of_zero_le (show 0 ≤ b by omega)
  obtain ⟨s1, s2, s3⟩ := num_syms b (by omega) (n + 1) n (Nat.lt_succ_self n)
  have s4 : symsOf (b : Int) (n : Int) = syms b (n + 1) n := rfl
  rw [s4]
  have s5 : (syms b (n + 1) n).length ≤ 4000 := syms_len (by omega) _ _ _ (by exact_mod_cast g2)
  generalize syms b (n + 1) n = sy at s1 s2 s3 s5
  walk_at "gx"
  refine c_strip (xs := sy) rfl (by omega) ?_
  walk_at "gx"
  rw [s3]
  refine ⟨_, _, pyI sy, pyI sy, shapedI sy, shapedI sy, ?_⟩
  rw [eqvI, decide_eq_true rfl]
  walk_at "gx"
  refine lcL_by (fun i acc S => acc = [] ∧ S = [.v (.lst (ns.map D.int)), .ml p, .v (.int b), _, _, _, _, _, _, _, .v (.int n), _, .v (.tup (sy.map D.int)), .gone]) ?_ ?_ _ _ ⟨rfl, rfl⟩
  · rintro i d acc S Kx hd ⟨rfl, rfl⟩ hK
    obtain ⟨y, hy, rfl⟩ := map_get hd
    obtain ⟨y0, y1⟩ := s2 y (List.mem_of_getElem? hy)
    walk_at "gx"
    refine iteP_d (fun _ => ?_) (fun z => absurd y0 z)
    walk_at "gx"
    rw [decide_eq_true y1]
    walk_at "gx"
    exact hK _ _ ⟨rfl, rfl⟩
  · rintro acc S ⟨rfl, rfl⟩
    walk_at "gx"
    refine c_numL (by omega) (by omega) ?_
    rw [s1]
    walk_at "gx"
    rw [decide_eq_true rfl]
    exact h _
theorem law2 {R : RMx} {XR : XM} {ns : List Int} {p : List D} {b : Int} {ws : List Int} {due : M} (h : ∀ (ms' : List M), R (M.v (D.bl true)) ms') (hp : PoolOk p) (hb2 : 2 ≤ b) (hb4 : b ≤ 400) (hl' : ws.length ≤ 10) (hw : WordOk b ws) :
    b_law_6 (bodyE mask_law R XR) [.v (.lst (ns.map D.int)), .ml p, .v (.int b), .v (.tup (ws.map D.int)), due, .gone, .gone, .gone, .gone, .gone, .gone, .gone, .gone, .gone] := by
  walk_at "gx"
  refine c_draw hp (by decide) (by decide) fun lw p hw0 hw1 hp => ?_
  walk_at "gx"
  refine lcL_by (fun i acc S => ∃ (ws2 : List Int) (p : List D), acc = ws2.map D.int ∧ ws2.length = i ∧ PoolOk p ∧ S = [.v (.lst (ns.map D.int)), .ml p, .v (.int b), .v (.tup (ws.map D.int)), due, .gone, .gone, .gone, .gone, .gone, .gone, .gone, .gone, .gone]) ?_ ?_ _ _ ⟨[], p, rfl, rfl, hp, rfl⟩
  · rintro i d acc S Kx hd ⟨ws2, p, rfl, hl, hp, rfl⟩ hK
    obtain ⟨hi, rfl⟩ := rngD_get hd
    have hsz : (ws2.map D.int).length < sizeLine := by
      rw [List.length_map, hl]
      unfold sizeLine
      omega
    walk_at "gx"
    refine c_draw hp (by omega) (by omega) fun y p hy0 hy1 hp => ?_
    walk_at "gx"
    exact hK _ _ ⟨ws2 ++ [y], p, by rw [List.map_append]; rfl, by rw [List.length_append, hl]; rfl, hp, rfl⟩
  rintro acc S ⟨ls, p, rfl, hlsl, hp, rfl⟩
  rw [rngD_len] at hlsl
  have hls : ls.length ≤ 5 := by omega
  walk_at "gx"
  refine c_strip (xs := ls) rfl (by omega) ?_
  walk_at "gx"
  refine c_draw hp (by decide) (by decide) fun rw p hw0 hw1 hp => ?_
  walk_at "gx"
  refine lcL_by (fun i acc S => ∃ (ws2 : List Int) (p : List D), acc = ws2.map D.int ∧ ws2.length = i ∧ PoolOk p ∧ S = [.v (.lst (ns.map D.int)), .ml p, .v (.int b), .v (.tup (ws.map D.int)), due, .v (.tup ((strip ls).map D.int)), .gone, .gone, .gone, .gone, .gone, .gone, .gone, .gone]) ?_ ?_ _ _ ⟨[], p, rfl, rfl, hp, rfl⟩
  · rintro i d acc S Kx hd ⟨ws2, p, rfl, hl, hp, rfl⟩ hK
    obtain ⟨hi, rfl⟩ := rngD_get hd
    have hsz : (ws2.map D.int).length < sizeLine := by
      rw [List.length_map, hl]
      unfold sizeLine
      omega
    walk_at "gx"
    refine c_draw hp (by omega) (by omega) fun y p hy0 hy1 hp => ?_
    walk_at "gx"
    exact hK _ _ ⟨ws2 ++ [y], p, by rw [List.map_append]; rfl, by rw [List.length_append, hl]; rfl, hp, rfl⟩
  rintro acc S ⟨rs, p, rfl, hrsl, hp, rfl⟩
  rw [rngD_len] at hrsl
  have hrs : rs.length ≤ 5 := by omega
  walk_at "gx"
  refine c_strip (xs := rs) rfl (by omega) ?_
  walk_at "gx"
  have q1 := strip_len ls
  have q2 := strip_len rs
  refine c_draw hp (by decide) (by decide) fun z p hz0 hz1 hp => ?_
  walk_at "gx"
  refine iteP_d (fun _ => ?_) (fun _ => ?_)
  · walk_at "gx"
    refine c_draw hp (by omega) (by omega) fun y p hy0 hy1 hp => ?_
    walk_at "go"
    exact law3 h hp hb2 hb4 hl' hw (by omega) (by omega)
  · exact law3 h hp hb2 hb4 hl' hw (by omega) (by omega)
theorem is_law : BodyIs mask_law 14 b_law m_law := by
  intro ms R XR _ h
  unfold m_law at h
  obtain ⟨ns, hns, rfl, h⟩ := h
  show b_law (bodyE mask_law R XR) [_, .gone, .gone, .gone, .gone, .gone, .gone, .gone, .gone, .gone, .gone, .gone, .gone, .gone]
  walk_at "gx"
  refine c_pool hns fun p hp => ?_
  walk_at "gx"
  refine c_draw hp (by decide) (by decide) fun z p hz0 hz1 hp => ?_
  walk_at "gx"
  have hb : ∃ b : Int, atI [D.int 2, D.int 3, D.int 10, D.int 400] z = some (.int b) ∧ 2 ≤ b ∧ b ≤ 400 := by
    obtain rfl | rfl | rfl | rfl : z = 0 ∨ z = 1 ∨ z = 2 ∨ z = 3 := by omega
    · exact ⟨2, rfl, by decide, by decide⟩
    · exact ⟨3, rfl, by decide, by decide⟩
    · exact ⟨10, rfl, by decide, by decide⟩
    · exact ⟨400, rfl, by decide, by decide⟩
  obtain ⟨b, hbe, hb2, hb4⟩ := hb
  refine ⟨_, _, rfl, hbe, ?_⟩
  walk_at "gx"
  refine c_draw hp (by decide) (by decide) fun w p hw0 hw1 hp => ?_
  walk_at "gx"
  refine lcL_by (fun i acc S => ∃ (ws : List Int) (p : List D), acc = ws.map D.int ∧ ws.length = i ∧ WordOk b ws ∧ PoolOk p ∧ S = [.v (.lst (ns.map D.int)), .ml p, .v (.int b), .gone, .gone, .gone, .gone, .gone, .gone, .gone, .gone, .gone, .gone, .gone]) ?_ ?_ _ _ ⟨[], p, rfl, rfl, fun x hx => (List.not_mem_nil hx).elim, hp, rfl⟩
  · rintro i d acc S Kx hd ⟨ws, p, rfl, hl, hw, hp, rfl⟩ hK
    obtain ⟨hi, rfl⟩ := rngD_get hd
    have hsz : (ws.map D.int).length < sizeLine := by
      rw [List.length_map, hl]
      unfold sizeLine
      omega
    walk_at "gx"
    refine c_draw hp (by decide) (by decide) fun z p hz0 hz1 hp => ?_
    walk_at "gx"
    refine iteP_d (fun h1 => ?_) (fun h1 => ?_)
    · walk_at "gx"
      refine c_draw hp (by omega) (by omega) fun y p hy0 hy1 hp => ?_
      walk_at "gx"
      refine hK _ _ ⟨ws ++ [y], p, by rw [List.map_append]; rfl, by rw [List.length_append, hl]; rfl, ?_, hp, rfl⟩
      intro x hx
      rcases List.mem_append.mp hx with hx | hx
      · exact hw x hx
      · cases List.mem_singleton.mp hx
        exact ⟨hy0, hy1⟩
    · walk_at "gx"
      refine hK _ _ ⟨ws ++ [0], p, by rw [List.map_append]; rfl, by rw [List.length_append, hl]; rfl, ?_, hp, rfl⟩
      intro x hx
      rcases List.mem_append.mp hx with hx | hx
      · exact hw x hx
      · cases List.mem_singleton.mp hx
        omega
  rintro acc S ⟨ws, p, rfl, hl, hw, hp, rfl⟩
  rw [rngD_len] at hl
  have hl' : ws.length ≤ 10 := by omega
  walk_at "gx"
  refine ⟨_, _, pyI ws, pyI [], shapedI ws, shapedI [], ?_⟩
  rw [eqvI]
  have hdep : dep 8 (startD ws) = true := by
    cases ws with
    | nil => rfl
    | cons x r =>
      have := strip_len r
      rw [List.length_cons] at hl'
      exact dep_conf (by decide) (by omega)
  have hsp := strip_len ws
  by_cases hws : ws = []
  · refine iteP_neg (by rw [decide_eq_true hws]; rfl) ?_
    have e : startD ws = .tup [.int 0, .tup [], .int 0, .tup []] := by rw [hws]; rfl
    walk_at "gx"
    refine c_start (by omega) ?_
    walk_at "gx"
    refine c_like (n := 7) (d := startD ws) rfl (congrArg some e.symm) hdep ?_
    walk_at "gx"
    exact law2 h hp hb2 hb4 hl' hw
  · refine iteP_pos (by rw [decide_eq_false hws]; rfl) ?_
    obtain ⟨x, r, hxr⟩ : ∃ x r, ws = x :: r := by
      cases ws with
      | nil => exact absurd rfl hws
      | cons x r => exact ⟨x, r, rfl⟩
    have e : startD ws = .tup [.int 0, .tup [], .int x, .tup ((strip r).map D.int)] := by rw [hxr]; rfl
    walk_at "gx"
    refine ⟨_, _, rfl, show atI (ws.map D.int) 0 = some (.int x) by rw [hxr]; exact atI_of rfl, ?_⟩
    walk_at "gx"
    refine c_strip (xs := r) (by
      show some (cut (ws.map D.int) (some 1) none) = _
      rw [hxr, cut_drop1]
      rfl) (by rw [hxr, List.length_cons] at hl'; omega) ?_
    walk_at "gx"
    refine c_start (by omega) ?_
    walk_at "gx"
    refine c_like (n := 7) (d := startD ws) rfl (congrArg some e.symm) hdep ?_
    walk_at "gx"
    exact law2 h hp hb2 hb4 hl' hw
structure Adr where
  f__law_pool : Addr
  d__law_pool : FuncData
  f__law_spread : Addr
  d__law_spread : FuncData
  f__law_draw : Addr
  d__law_draw : FuncData
  f__law_strip : Addr
  d__law_strip : FuncData
  f_stripped : Addr
  d_stripped : FuncData
  f_start : Addr
  d_start : FuncData
  f__law_like : Addr
  d__law_like : FuncData
  f_content : Addr
  d_content : FuncData
  f__law_number : Addr
  d__law_number : FuncData
  f_number_of : Addr
  d_number_of : FuncData
  f_symbols_of : Addr
  d_symbols_of : FuncData
  f_law : Addr
  d_law : FuncData
  t_BLANK : Tok
structure Txt (K : PySem.W.Frag) (mg : Str → Option Value) (a : Adr) : Prop where
  F__law_pool : Fun K "_law_pool" "_law_pool" st__law_pool a.f__law_pool a.d__law_pool
  m__law_pool : mg "_law_pool" = some (.ref a.f__law_pool)
  b__law_pool : Binds K a.d__law_pool ["_law_script"] []
  F__law_spread : Fun K "_law_spread" "_law_spread" st__law_spread a.f__law_spread a.d__law_spread
  m__law_spread : mg "_law_spread" = some (.ref a.f__law_spread)
  b__law_spread : Binds K a.d__law_spread ["_law_cell"] []
  F__law_draw : Fun K "_law_draw" "_law_draw" st__law_draw a.f__law_draw a.d__law_draw
  m__law_draw : mg "_law_draw" = some (.ref a.f__law_draw)
  b__law_draw : Binds K a.d__law_draw ["_law_pool_here", "_law_many"] []
  F__law_strip : Fun K "_law_strip" "_law_strip" st__law_strip a.f__law_strip a.d__law_strip
  m__law_strip : mg "_law_strip" = some (.ref a.f__law_strip)
  b__law_strip : Binds K a.d__law_strip ["_law_symbols"] []
  F_stripped : Fun K "stripped" "stripped" st_stripped a.f_stripped a.d_stripped
  m_stripped : mg "stripped" = some (.ref a.f_stripped)
  b_stripped : Binds K a.d_stripped ["symbols"] []
  F_start : Fun K "start" "start" st_start a.f_start a.d_start
  m_start : mg "start" = some (.ref a.f_start)
  b_start : Binds K a.d_start ["word"] []
  F__law_like : Fun K "_law_like" "_law_like" st__law_like a.f__law_like a.d__law_like
  m__law_like : mg "_law_like" = some (.ref a.f__law_like)
  b__law_like : Binds K a.d__law_like ["_law_actual", "_law_due"] []
  F_content : Fun K "content" "content" st_content a.f_content a.d_content
  m_content : mg "content" = some (.ref a.f_content)
  b_content : Binds K a.d_content ["configuration"] []
  F__law_number : Fun K "_law_number" "_law_number" st__law_number a.f__law_number a.d__law_number
  m__law_number : mg "_law_number" = some (.ref a.f__law_number)
  b__law_number : Binds K a.d__law_number ["_law_symbols", "_law_base"] []
  F_number_of : Fun K "number_of" "number_of" st_number_of a.f_number_of a.d_number_of
  m_number_of : mg "number_of" = some (.ref a.f_number_of)
  b_number_of : Binds K a.d_number_of ["symbols", "base"] []
  F_symbols_of : Fun K "symbols_of" "symbols_of" st_symbols_of a.f_symbols_of a.d_symbols_of
  m_symbols_of : mg "symbols_of" = some (.ref a.f_symbols_of)
  b_symbols_of : Binds K a.d_symbols_of ["number", "base"] []
  F_law : Fun K "law" "law" st_law a.f_law a.d_law
  m_law : mg "law" = some (.ref a.f_law)
  b_law : Binds K a.d_law ["_law_script"] []
  g_BLANK : mg "BLANK" = some (.int 0 a.t_BLANK)
  n_all : mg "all" = none
  n_bool : mg "bool" = none
  n_int : mg "int" = none
  n_isinstance : mg "isinstance" = none
  n_len : mg "len" = none
  n_list : mg "list" = none
  n_range : mg "range" = none
  n_str : mg "str" = none
  n_tuple : mg "tuple" = none
section
variable {P : Program} {w : World} {K : PySem.W.Frag} {mg : Str → Option Value} {base : Heap} {a : Adr}
theorem sc__law_pool : FnScope N__law_pool ["_law_script"] (defScope st__law_pool) := ⟨rfl, rfl, rfl, by decide +kernel, rfl, by decide +kernel, by decide +kernel⟩
set_option maxHeartbeats 4000000 in
theorem d__law_pool (T : Txt K mg a) {k : Nat} {cdv : Value} {A : Around} {outer : List Env} {s : Shared} {H : Hp} {E : XK} (hr : Room k (A.deeper (envOfC "_law_pool" (defScope st__law_pool) s.heap.objs.size a.f__law_pool cdv))) (tk : Takes (cxOf (L2.CX P w) P w K mg base N__law_pool "_law_pool" (defScope st__law_pool) a.f__law_pool cdv A outer s H E) (fun c d _ H => E c d H))
    (hp : PassesOwn (model P w) (A.deeper (envOfC "_law_pool" (defScope st__law_pool) s.heap.objs.size a.f__law_pool cdv)) (envOfC "_law_pool" (defScope st__law_pool) s.heap.objs.size a.f__law_pool cdv) (cxOf (L2.CX P w) P w K mg base N__law_pool "_law_pool" (defScope st__law_pool) a.f__law_pool cdv A outer s H E).xe) :
    DSs (cxOf (L2.CX P w) P w K mg base N__law_pool "_law_pool" (defScope st__law_pool) a.f__law_pool cdv A outer s H E) (fun c d _ H => E c d H) mask__law_pool (defBody st__law_pool) (b__law_pool) :=
  have sc := sc__law_pool
  (dss_cons (ds_set (i := 1) sc.nd rfl (by first | exact Or.inl rfl | exact Or.inr rfl) de_int)
  (dss_cons (ds_for hp rfl (di_val (de_sl (do_m (de_v 0)) dp_none (dp_some de_int))) (dg_name sc.nd rfl (by first | exact Or.inl rfl | exact Or.inr rfl)) (dss_one (ds_set (i := 1) sc.nd rfl (by first | exact Or.inl rfl | exact Or.inr rfl) (de_op o_mod (do_m (de_callTy c_int rfl T.n_int (by decide +kernel) (dos_cons (do_m (de_op o_add (do_m (de_op o_mul (do_m (de_v 1)) (do_m de_int))) (do_m (de_v 2)))) dos_nil))) (do_m de_int)))))
  (dss_one (ds_ret (de_lst (da_cons (de_callTy c_list rfl T.n_list (by decide +kernel) (dos_cons (do_m (de_v 0)) dos_nil)) (da_cons de_int (da_cons de_int (da_cons de_int (da_cons (de_v 1) da_nil))))))))))
theorem ok__law_pool (T : Txt K mg a) {k : Nat} : FnOk P w K mg base (L2.CX P w) (k + 1) a.f__law_pool a.d__law_pool ["_law_script"] (spOf K 1 m__law_pool) := fn_ok T.F__law_pool sc__law_pool rfl (fun cdv A outer s H E hr tk hp => d__law_pool T hr tk hp) is__law_pool

theorem sc__law_spread : FnScope N__law_spread ["_law_cell"] (defScope st__law_spread) := ⟨rfl, rfl, rfl, by decide +kernel, rfl, by decide +kernel, by decide +kernel⟩
set_option maxHeartbeats 4000000 in
theorem d__law_spread (T : Txt K mg a) {k : Nat} {cdv : Value} {A : Around} {outer : List Env} {s : Shared} {H : Hp} {E : XK} (hr : Room k (A.deeper (envOfC "_law_spread" (defScope st__law_spread) s.heap.objs.size a.f__law_spread cdv))) (tk : Takes (cxOf (L2.CX P w) P w K mg base N__law_spread "_law_spread" (defScope st__law_spread) a.f__law_spread cdv A outer s H E) (fun c d _ H => E c d H))
    (hp : PassesOwn (model P w) (A.deeper (envOfC "_law_spread" (defScope st__law_spread) s.heap.objs.size a.f__law_spread cdv)) (envOfC "_law_spread" (defScope st__law_spread) s.heap.objs.size a.f__law_spread cdv) (cxOf (L2.CX P w) P w K mg base N__law_spread "_law_spread" (defScope st__law_spread) a.f__law_spread cdv A outer s H E).xe) :
    DSs (cxOf (L2.CX P w) P w K mg base N__law_spread "_law_spread" (defScope st__law_spread) a.f__law_spread cdv A outer s H E) (fun c d _ H => E c d H) mask__law_spread (defBody st__law_spread) (b__law_spread) :=
  have sc := sc__law_spread
  (dss_cons (ds_set (i := 1) sc.nd rfl (by first | exact Or.inl rfl | exact Or.inr rfl) (de_op o_mod (do_m (de_callTy c_int rfl T.n_int (by decide +kernel) (dos_cons (do_m (de_v 0)) dos_nil))) (do_m de_int)))
  (dss_cons (ds_set (i := 2) sc.nd rfl (by first | exact Or.inl rfl | exact Or.inr rfl) de_int)
  (dss_cons (ds_for hp rfl (di_r1 rfl T.n_range (da_cons de_int da_nil)) (dg_name sc.nd rfl (by first | exact Or.inl rfl | exact Or.inr rfl)) (dss_cons (ds_set (i := 1) sc.nd rfl (by first | exact Or.inl rfl | exact Or.inr rfl) (de_op o_mod (do_m (de_callTy c_int rfl T.n_int (by decide +kernel) (dos_cons (do_m (de_op o_add (do_m (de_op o_add (do_m (de_op o_mul (do_m (de_v 1)) (do_m de_int))) (do_m de_int))) (do_m (de_v 3)))) dos_nil))) (do_m de_int)))
  (dss_one (ds_set (i := 2) sc.nd rfl (by first | exact Or.inl rfl | exact Or.inr rfl) (de_op o_add (do_m (de_op o_mul (do_m (de_v 2)) (do_m de_int))) (do_m (de_v 1)))))))
  (dss_one (ds_ret (de_v 2))))))
theorem ok__law_spread (T : Txt K mg a) {k : Nat} : FnOk P w K mg base (L2.CX P w) (k + 1) a.f__law_spread a.d__law_spread ["_law_cell"] (spOf K 1 m__law_spread) := fn_ok T.F__law_spread sc__law_spread rfl (fun cdv A outer s H E hr tk hp => d__law_spread T hr tk hp) is__law_spread

theorem sc__law_draw : FnScope N__law_draw ["_law_pool_here", "_law_many"] (defScope st__law_draw) := ⟨rfl, rfl, rfl, by decide +kernel, rfl, by decide +kernel, by decide +kernel⟩
set_option maxHeartbeats 4000000 in
theorem d__law_draw (T : Txt K mg a) {k : Nat} {k__law_spread : Nat} (h__law_spread : k__law_spread ≤ k) (G__law_spread : FnOk P w K mg base (L2.CX P w) k__law_spread a.f__law_spread a.d__law_spread ["_law_cell"] (spOf K 1 m__law_spread)) {cdv : Value} {A : Around} {outer : List Env} {s : Shared} {H : Hp} {E : XK} (hr : Room k (A.deeper (envOfC "_law_draw" (defScope st__law_draw) s.heap.objs.size a.f__law_draw cdv))) (tk : Takes (cxOf (L2.CX P w) P w K mg base N__law_draw "_law_draw" (defScope st__law_draw) a.f__law_draw cdv A outer s H E) (fun c d _ H => E c d H))
    (hp : PassesOwn (model P w) (A.deeper (envOfC "_law_draw" (defScope st__law_draw) s.heap.objs.size a.f__law_draw cdv)) (envOfC "_law_draw" (defScope st__law_draw) s.heap.objs.size a.f__law_draw cdv) (cxOf (L2.CX P w) P w K mg base N__law_draw "_law_draw" (defScope st__law_draw) a.f__law_draw cdv A outer s H E).xe) :
    DSs (cxOf (L2.CX P w) P w K mg base N__law_draw "_law_draw" (defScope st__law_draw) a.f__law_draw cdv A outer s H E) (fun c d _ H => E c d H) mask__law_draw (defBody st__law_draw) (b__law_draw) :=
  have sc := sc__law_draw
  (dss_cons (ds_if (dt_w (dw_and (dt_cmp o_le (do_m (de_ix o_ix (do_n 0) (do_m de_int))) (do_m de_int)) (dw_and1 (dt_cmp o_lt (do_m (de_ix o_ix (do_n 0) (do_m de_int))) (do_m (de_callB c_len rfl T.n_len (by decide +kernel) (dos_cons (do_m (de_ix o_ix (do_n 0) (do_m de_int))) dos_nil))))))) (dss_cons (ds_set (i := 2) sc.nd rfl (by first | exact Or.inl rfl | exact Or.inr rfl) (de_ix o_ix (do_m (de_ix o_ix (do_n 0) (do_m de_int))) (do_m (de_ix o_ix (do_n 0) (do_m de_int)))))
  (dss_cons (ds_asg (de_op o_add (do_m (de_ix o_ix (do_n 0) (do_m de_int))) (do_m de_int)) (dg_sub (do_n 0) (do_m de_int) s_setL))
  (dss_cons (ds_asg (de_v 2) (dg_sub (do_n 0) (do_m de_int) s_setL))
  (dss_one (ds_if (dt_cmp o_lt (do_m (de_v 2)) (do_m de_int)) (dss_one (ds_asg (de_call G__law_spread tk (hr.mono (by omega)) rfl T.m__law_spread T.F__law_spread.kp T.b__law_spread (dos_cons (do_m (de_v 2)) dos_nil)) (dg_sub (do_n 0) (do_m de_int) s_setL))) dss_nil))))) dss_nil)
  (dss_cons (ds_asg (de_op o_add (do_m (de_ix o_ix (do_n 0) (do_m de_int))) (do_m de_int)) (dg_sub (do_n 0) (do_m de_int) s_setL))
  (dss_cons (ds_if (dt_cmp o_le (do_m (de_ix o_ix (do_n 0) (do_m de_int))) (do_m de_int)) (dss_cons (ds_set (i := 3) sc.nd rfl (by first | exact Or.inl rfl | exact Or.inr rfl) (de_op o_mod (do_m (de_callTy c_int rfl T.n_int (by decide +kernel) (dos_cons (do_m (de_op o_add (do_m (de_op o_add (do_m (de_op o_mul (do_m (de_ix o_ix (do_n 0) (do_m de_int))) (do_m de_int))) (do_m (de_op o_mul (do_m (de_ix o_ix (do_n 0) (do_m de_int))) (do_m de_int))))) (do_m de_int))) dos_nil))) (do_m de_int)))
  (dss_cons (ds_set (i := 3) sc.nd rfl (by first | exact Or.inl rfl | exact Or.inr rfl) (de_op o_mod (do_m (de_callTy c_int rfl T.n_int (by decide +kernel) (dos_cons (do_m (de_op o_add (do_m (de_op o_mul (do_m (de_v 3)) (do_m de_int))) (do_m (de_ix o_ix (do_n 0) (do_m de_int))))) dos_nil))) (do_m de_int)))
  (dss_one (ds_ret (de_op o_mod (do_m (de_op o_div (do_m (de_v 3)) (do_m de_int))) (do_m (de_v 1))))))) dss_nil)
  (dss_cons (ds_set (i := 4) sc.nd rfl (by first | exact Or.inl rfl | exact Or.inr rfl) (de_op o_mod (do_m (de_callTy c_int rfl T.n_int (by decide +kernel) (dos_cons (do_m (de_ix o_ix (do_n 0) (do_m de_int))) dos_nil))) (do_m (de_v 1))))
  (dss_cons (ds_asg (de_op o_div (do_m (de_ix o_ix (do_n 0) (do_m de_int))) (do_m (de_v 1))) (dg_sub (do_n 0) (do_m de_int) s_setL))
  (dss_one (ds_ret (de_v 4))))))))
theorem ok__law_draw (T : Txt K mg a) {k : Nat} {k__law_spread : Nat} (h__law_spread : k__law_spread ≤ k) (G__law_spread : FnOk P w K mg base (L2.CX P w) k__law_spread a.f__law_spread a.d__law_spread ["_law_cell"] (spOf K 1 m__law_spread)) : FnOk P w K mg base (L2.CX P w) (k + 1) a.f__law_draw a.d__law_draw ["_law_pool_here", "_law_many"] (spOf K 2 m__law_draw) := fn_ok T.F__law_draw sc__law_draw rfl (fun cdv A outer s H E hr tk hp => d__law_draw T h__law_spread G__law_spread hr tk hp) is__law_draw

theorem sc__law_strip : FnScope N__law_strip ["_law_symbols"] (defScope st__law_strip) := ⟨rfl, rfl, rfl, by decide +kernel, rfl, by decide +kernel, by decide +kernel⟩
set_option maxHeartbeats 4000000 in
theorem d__law_strip (T : Txt K mg a) {k : Nat} {cdv : Value} {A : Around} {outer : List Env} {s : Shared} {H : Hp} {E : XK} (hr : Room k (A.deeper (envOfC "_law_strip" (defScope st__law_strip) s.heap.objs.size a.f__law_strip cdv))) (tk : Takes (cxOf (L2.CX P w) P w K mg base N__law_strip "_law_strip" (defScope st__law_strip) a.f__law_strip cdv A outer s H E) (fun c d _ H => E c d H))
    (hp : PassesOwn (model P w) (A.deeper (envOfC "_law_strip" (defScope st__law_strip) s.heap.objs.size a.f__law_strip cdv)) (envOfC "_law_strip" (defScope st__law_strip) s.heap.objs.size a.f__law_strip cdv) (cxOf (L2.CX P w) P w K mg base N__law_strip "_law_strip" (defScope st__law_strip) a.f__law_strip cdv A outer s H E).xe) :
    DSs (cxOf (L2.CX P w) P w K mg base N__law_strip "_law_strip" (defScope st__law_strip) a.f__law_strip cdv A outer s H E) (fun c d _ H => E c d H) mask__law_strip (defBody st__law_strip) (b__law_strip) :=
  have sc := sc__law_strip
  (dss_cons (ds_set (i := 1) sc.nd rfl (by first | exact Or.inl rfl | exact Or.inr rfl) (de_callB c_len rfl T.n_len (by decide +kernel) (dos_cons (do_n 0) dos_nil)))
  (dss_cons (ds_for hp rfl (di_r1 rfl T.n_range (da_cons (de_callB c_len rfl T.n_len (by decide +kernel) (dos_cons (do_n 0) dos_nil)) da_nil)) (dg_name sc.nd rfl (by first | exact Or.inl rfl | exact Or.inr rfl)) (dss_one (ds_if (dt_w (dw_and (dt_cmp o_gt (do_m (de_v 1)) (do_m de_int)) (dw_and1 (dt_cmp (o_eq hr.units) (do_m (de_ix o_ix (do_n 0) (do_m (de_op o_sub (do_m (de_v 1)) (do_m de_int))))) (do_m de_int))))) (dss_one (ds_set (i := 1) sc.nd rfl (by first | exact Or.inl rfl | exact Or.inr rfl) (de_op o_sub (do_m (de_v 1)) (do_m de_int)))) dss_nil)))
  (dss_one (ds_ret (de_callTy c_tuple rfl T.n_tuple (by decide +kernel) (dos_cons (do_m (de_sl (do_n 0) dp_none (dp_some (de_v 1)))) dos_nil))))))
theorem ok__law_strip (T : Txt K mg a) {k : Nat} : FnOk P w K mg base (L2.CX P w) (k + 1) a.f__law_strip a.d__law_strip ["_law_symbols"] (spOf K 1 m__law_strip) := fn_ok T.F__law_strip sc__law_strip rfl (fun cdv A outer s H E hr tk hp => d__law_strip T hr tk hp) is__law_strip

theorem sc_stripped : FnScope N_stripped ["symbols"] (defScope st_stripped) := ⟨rfl, rfl, rfl, by decide +kernel, rfl, by decide +kernel, by decide +kernel⟩
set_option maxHeartbeats 4000000 in
theorem d_stripped (T : Txt K mg a) {k : Nat} {cdv : Value} {A : Around} {outer : List Env} {s : Shared} {H : Hp} {E : XK} (hr : Room k (A.deeper (envOfC "stripped" (defScope st_stripped) s.heap.objs.size a.f_stripped cdv))) (tk : Takes (cxOf (L2.CX P w) P w K mg base N_stripped "stripped" (defScope st_stripped) a.f_stripped cdv A outer s H E) (fun c d _ H => E c d H))
    (hp : PassesOwn (model P w) (A.deeper (envOfC "stripped" (defScope st_stripped) s.heap.objs.size a.f_stripped cdv)) (envOfC "stripped" (defScope st_stripped) s.heap.objs.size a.f_stripped cdv) (cxOf (L2.CX P w) P w K mg base N_stripped "stripped" (defScope st_stripped) a.f_stripped cdv A outer s H E).xe) :
    DSs (cxOf (L2.CX P w) P w K mg base N_stripped "stripped" (defScope st_stripped) a.f_stripped cdv A outer s H E) (fun c d _ H => E c d H) mask_stripped (defBody st_stripped) (b_stripped) :=
  have sc := sc_stripped
  (dss_cons (ds_set (i := 1) sc.nd rfl (by first | exact Or.inl rfl | exact Or.inr rfl) (de_callB c_len rfl T.n_len (by decide +kernel) (dos_cons (do_n 0) dos_nil)))
  (dss_cons (ds_while hp (dt_w (dw_and (dt_cmp o_gt (do_m (de_v 1)) (do_m de_int)) (dw_and1 (dt_cmp (o_eq hr.units) (do_m (de_ix o_ix (do_n 0) (do_m (de_op o_sub (do_m (de_v 1)) (do_m de_int))))) (do_m (de_glob (v := .int 0) rfl T.g_BLANK ⟨_, rfl⟩ fun _ _ _ => .int _)))))) (dss_one (ds_aug sc.nd rfl (by first | exact Or.inl rfl | exact Or.inr rfl) de_int ip_sub')))
  (dss_one (ds_ret (de_callTy c_tuple rfl T.n_tuple (by decide +kernel) (dos_cons (do_m (de_sl (do_n 0) dp_none (dp_some (de_v 1)))) dos_nil))))))
theorem ok_stripped (T : Txt K mg a) {k : Nat} : FnOk P w K mg base (L2.CX P w) (k + 1) a.f_stripped a.d_stripped ["symbols"] (spOf K 1 m_stripped) := fn_ok T.F_stripped sc_stripped rfl (fun cdv A outer s H E hr tk hp => d_stripped T hr tk hp) is_stripped

theorem sc_start : FnScope N_start ["word"] (defScope st_start) := ⟨rfl, rfl, rfl, by decide +kernel, rfl, by decide +kernel, by decide +kernel⟩
set_option maxHeartbeats 4000000 in
theorem d_start (T : Txt K mg a) {k : Nat} {k_stripped : Nat} (h_stripped : k_stripped ≤ k) (G_stripped : FnOk P w K mg base (L2.CX P w) k_stripped a.f_stripped a.d_stripped ["symbols"] (spOf K 1 m_stripped)) {cdv : Value} {A : Around} {outer : List Env} {s : Shared} {H : Hp} {E : XK} (hr : Room k (A.deeper (envOfC "start" (defScope st_start) s.heap.objs.size a.f_start cdv))) (tk : Takes (cxOf (L2.CX P w) P w K mg base N_start "start" (defScope st_start) a.f_start cdv A outer s H E) (fun c d _ H => E c d H))
    (hp : PassesOwn (model P w) (A.deeper (envOfC "start" (defScope st_start) s.heap.objs.size a.f_start cdv)) (envOfC "start" (defScope st_start) s.heap.objs.size a.f_start cdv) (cxOf (L2.CX P w) P w K mg base N_start "start" (defScope st_start) a.f_start cdv A outer s H E).xe) :
    DSs (cxOf (L2.CX P w) P w K mg base N_start "start" (defScope st_start) a.f_start cdv A outer s H E) (fun c d _ H => E c d H) mask_start (defBody st_start) (b_start) :=
  have sc := sc_start
  (dss_cons (ds_if (dt_cmp (o_eq hr.units) (do_m (de_callB c_len rfl T.n_len (by decide +kernel) (dos_cons (do_m (de_v 0)) dos_nil))) (do_m de_int)) (dss_one (ds_ret (de_tup (da_cons de_int (da_cons (de_tup da_nil) (da_cons (de_glob (v := .int 0) rfl T.g_BLANK ⟨_, rfl⟩ fun _ _ _ => .int _) (da_cons (de_tup da_nil) da_nil))))))) dss_nil)
  (dss_one (ds_ret (de_tup (da_cons de_int (da_cons (de_tup da_nil) (da_cons (de_ix o_ix (do_m (de_v 0)) (do_m de_int)) (da_cons (de_call G_stripped tk (hr.mono (by omega)) rfl T.m_stripped T.F_stripped.kp T.b_stripped (dos_cons (do_m (de_sl (do_m (de_v 0)) (dp_some de_int) dp_none)) dos_nil)) da_nil))))))))
theorem ok_start (T : Txt K mg a) {k : Nat} {k_stripped : Nat} (h_stripped : k_stripped ≤ k) (G_stripped : FnOk P w K mg base (L2.CX P w) k_stripped a.f_stripped a.d_stripped ["symbols"] (spOf K 1 m_stripped)) : FnOk P w K mg base (L2.CX P w) (k + 1) a.f_start a.d_start ["word"] (spOf K 1 m_start) := fn_ok T.F_start sc_start rfl (fun cdv A outer s H E hr tk hp => d_start T h_stripped G_stripped hr tk hp) is_start

theorem sc__law_like : FnScope N__law_like ["_law_actual", "_law_due"] (defScope st__law_like) := ⟨rfl, rfl, rfl, by decide +kernel, rfl, by decide +kernel, by decide +kernel⟩
set_option maxHeartbeats 4000000 in
theorem d__law_like (T : Txt K mg a) {k : Nat} {mself : FM} {kself : Nat} (hself : kself ≤ k) (Gself : FnOk P w K mg base (L2.CX P w) kself a.f__law_like a.d__law_like ["_law_actual", "_law_due"] (spOf K 2 mself)) {cdv : Value} {A : Around} {outer : List Env} {s : Shared} {H : Hp} {E : XK} (hr : Room k (A.deeper (envOfC "_law_like" (defScope st__law_like) s.heap.objs.size a.f__law_like cdv))) (tk : Takes (cxOf (L2.CX P w) P w K mg base N__law_like "_law_like" (defScope st__law_like) a.f__law_like cdv A outer s H E) (fun c d _ H => E c d H))
    (hp : PassesOwn (model P w) (A.deeper (envOfC "_law_like" (defScope st__law_like) s.heap.objs.size a.f__law_like cdv)) (envOfC "_law_like" (defScope st__law_like) s.heap.objs.size a.f__law_like cdv) (cxOf (L2.CX P w) P w K mg base N__law_like "_law_like" (defScope st__law_like) a.f__law_like cdv A outer s H E).xe) :
    DSs (cxOf (L2.CX P w) P w K mg base N__law_like "_law_like" (defScope st__law_like) a.f__law_like cdv A outer s H E) (fun c d _ H => E c d H) mask__law_like (defBody st__law_like) (b__law_like mself) :=
  have sc := sc__law_like
  (dss_cons (ds_if (dt_cmp o_isN (do_n 1) (do_m de_non) ) (dss_one (ds_ret (de_cmp o_isN (do_n 0) (do_m de_non) ))) dss_nil)
  (dss_cons (ds_if (dt_of (de_isa isa_bool rfl T.n_isinstance (do_n 1) rfl T.n_bool (by decide +kernel))) (dss_one (ds_ret (de_and (de_isa isa_bool rfl T.n_isinstance (do_n 0) rfl T.n_bool (by decide +kernel)) (de_one (de_cmp (o_eq hr.units) (do_n 0) (do_n 1)))))) dss_nil)
  (dss_cons (ds_if (dt_of (de_isa isa_str rfl T.n_isinstance (do_n 1) rfl T.n_str (by decide +kernel))) (dss_one (ds_ret (de_and (de_isa isa_str rfl T.n_isinstance (do_n 0) rfl T.n_str (by decide +kernel)) (de_one (de_cmp (o_eq hr.units) (do_n 0) (do_n 1)))))) dss_nil)
  (dss_cons (ds_if (dt_of (de_isa isa_int rfl T.n_isinstance (do_n 1) rfl T.n_int (by decide +kernel))) (dss_one (ds_ret (de_and (de_isa isa_int rfl T.n_isinstance (do_n 0) rfl T.n_int (by decide +kernel)) (de_and (de_not (de_isa isa_bool rfl T.n_isinstance (do_n 0) rfl T.n_bool (by decide +kernel))) (de_one (de_cmp (o_eq hr.units) (do_n 0) (do_n 1))))))) dss_nil)
  (dss_cons (ds_if (dt_w (dw_or (dt_cmp (o_ne hr.units) (do_m (de_isa isa_list rfl T.n_isinstance (do_n 1) rfl T.n_list (by decide +kernel))) (do_m (de_isa isa_list rfl T.n_isinstance (do_n 0) rfl T.n_list (by decide +kernel)))) (dw_or1 (dt_cmp (o_ne hr.units) (do_m (de_isa isa_tuple rfl T.n_isinstance (do_n 1) rfl T.n_tuple (by decide +kernel))) (do_m (de_isa isa_tuple rfl T.n_isinstance (do_n 0) rfl T.n_tuple (by decide +kernel))))))) (dss_one (ds_ret de_bl)) dss_nil)
  (dss_cons (ds_if (dt_cmp (o_ne hr.units) (do_m (de_callB c_len rfl T.n_len (by decide +kernel) (dos_cons (do_n 0) dos_nil))) (do_m (de_callB c_len rfl T.n_len (by decide +kernel) (dos_cons (do_n 1) dos_nil)))) (dss_one (ds_ret de_bl)) dss_nil)
  (dss_one (ds_ret (de_callB (c_all rfl) rfl T.n_all (by decide +kernel) (dos_cons (do_m (de_lc (own := [("_law_k", 2)]) (mask := [true, true, false]) rfl sc.nd (di_r1 rfl T.n_range (da_cons (de_callB c_len rfl T.n_len (by decide +kernel) (dos_cons (do_n 1) dos_nil)) da_nil)) (blkOk_by (N := N__law_like) rfl) (fun _ _ _ _ _ => (dg_name sc.nd rfl (by first | exact Or.inl rfl | exact Or.inr rfl))) (fun _ _ _ _ _ => dts_nil) (fun _ _ _ _ _ => (de_call Gself takes0 (hr.mono (by omega)) rfl T.m__law_like T.F__law_like.kp T.b__law_like (dos_cons (do_m (de_ix o_ix (do_n 0) (do_m (de_v 2)))) (dos_cons (do_m (de_ix o_ix (do_n 1) (do_m (de_v 2)))) dos_nil)))))) dos_nil))))))))))
theorem ok__law_like (T : Txt K mg a) {k : Nat} : ∀ n : Nat, FnOk P w K mg base (L2.CX P w) (k + 1 + n) a.f__law_like a.d__law_like ["_law_actual", "_law_due"] (spOf K 2 (m__law_like n))
  | 0 => fn_false fun ms R XR h => by unfold m__law_like at h; exact h
  | n + 1 => fn_ok T.F__law_like sc__law_like rfl (fun cdv A outer s H E hr tk hp => d__law_like T (Nat.le_refl _) (ok__law_like T n) hr tk hp) (is__law_like n)

theorem sc_content : FnScope N_content ["configuration"] (defScope st_content) := ⟨rfl, rfl, rfl, by decide +kernel, rfl, by decide +kernel, by decide +kernel⟩
set_option maxHeartbeats 4000000 in
theorem d_content (T : Txt K mg a) {k : Nat} {k_stripped : Nat} (h_stripped : k_stripped ≤ k) (G_stripped : FnOk P w K mg base (L2.CX P w) k_stripped a.f_stripped a.d_stripped ["symbols"] (spOf K 1 m_stripped)) {cdv : Value} {A : Around} {outer : List Env} {s : Shared} {H : Hp} {E : XK} (hr : Room k (A.deeper (envOfC "content" (defScope st_content) s.heap.objs.size a.f_content cdv))) (tk : Takes (cxOf (L2.CX P w) P w K mg base N_content "content" (defScope st_content) a.f_content cdv A outer s H E) (fun c d _ H => E c d H))
    (hp : PassesOwn (model P w) (A.deeper (envOfC "content" (defScope st_content) s.heap.objs.size a.f_content cdv)) (envOfC "content" (defScope st_content) s.heap.objs.size a.f_content cdv) (cxOf (L2.CX P w) P w K mg base N_content "content" (defScope st_content) a.f_content cdv A outer s H E).xe) :
    DSs (cxOf (L2.CX P w) P w K mg base N_content "content" (defScope st_content) a.f_content cdv A outer s H E) (fun c d _ H => E c d H) mask_content (defBody st_content) (b_content) :=
  have sc := sc_content
  (dss_cons (ds_asg (de_v 0) (dg_tup rfl (dgs_cons (dg_name sc.nd rfl (by first | exact Or.inl rfl | exact Or.inr rfl)) (dgs_cons (dg_name sc.nd rfl (by first | exact Or.inl rfl | exact Or.inr rfl)) (dgs_cons (dg_name sc.nd rfl (by first | exact Or.inl rfl | exact Or.inr rfl)) (dgs_cons (dg_name sc.nd rfl (by first | exact Or.inl rfl | exact Or.inr rfl)) dgs_nil))))))
  (dss_cons (ds_set (i := 5) sc.nd rfl (by first | exact Or.inl rfl | exact Or.inr rfl) (de_call G_stripped tk (hr.mono (by omega)) rfl T.m_stripped T.F_stripped.kp T.b_stripped (dos_cons (do_m (de_op o_add (do_m (de_op o_add (do_m (de_rev (do_m (de_v 2)))) (do_m (de_tup (da_cons (de_v 3) da_nil))))) (do_m (de_v 4)))) dos_nil)))
  (dss_one (ds_ret (de_rev (do_m (de_call G_stripped tk (hr.mono (by omega)) rfl T.m_stripped T.F_stripped.kp T.b_stripped (dos_cons (do_m (de_rev (do_m (de_v 5)))) dos_nil))))))))
theorem ok_content (T : Txt K mg a) {k : Nat} {k_stripped : Nat} (h_stripped : k_stripped ≤ k) (G_stripped : FnOk P w K mg base (L2.CX P w) k_stripped a.f_stripped a.d_stripped ["symbols"] (spOf K 1 m_stripped)) : FnOk P w K mg base (L2.CX P w) (k + 1) a.f_content a.d_content ["configuration"] (spOf K 1 m_content) := fn_ok T.F_content sc_content rfl (fun cdv A outer s H E hr tk hp => d_content T h_stripped G_stripped hr tk hp) is_content

theorem sc__law_number : FnScope N__law_number ["_law_symbols", "_law_base"] (defScope st__law_number) := ⟨rfl, rfl, rfl, by decide +kernel, rfl, by decide +kernel, by decide +kernel⟩
set_option maxHeartbeats 4000000 in
theorem d__law_number (T : Txt K mg a) {k : Nat} {cdv : Value} {A : Around} {outer : List Env} {s : Shared} {H : Hp} {E : XK} (hr : Room k (A.deeper (envOfC "_law_number" (defScope st__law_number) s.heap.objs.size a.f__law_number cdv))) (tk : Takes (cxOf (L2.CX P w) P w K mg base N__law_number "_law_number" (defScope st__law_number) a.f__law_number cdv A outer s H E) (fun c d _ H => E c d H))
    (hp : PassesOwn (model P w) (A.deeper (envOfC "_law_number" (defScope st__law_number) s.heap.objs.size a.f__law_number cdv)) (envOfC "_law_number" (defScope st__law_number) s.heap.objs.size a.f__law_number cdv) (cxOf (L2.CX P w) P w K mg base N__law_number "_law_number" (defScope st__law_number) a.f__law_number cdv A outer s H E).xe) :
    DSs (cxOf (L2.CX P w) P w K mg base N__law_number "_law_number" (defScope st__law_number) a.f__law_number cdv A outer s H E) (fun c d _ H => E c d H) mask__law_number (defBody st__law_number) (b__law_number) :=
  have sc := sc__law_number
  (dss_cons (ds_set (i := 2) sc.nd rfl (by first | exact Or.inl rfl | exact Or.inr rfl) de_int)
  (dss_cons (ds_for hp rfl (di_val (de_rev (do_m (de_v 0)))) (dg_name sc.nd rfl (by first | exact Or.inl rfl | exact Or.inr rfl)) (dss_one (ds_set (i := 2) sc.nd rfl (by first | exact Or.inl rfl | exact Or.inr rfl) (de_op o_add (do_m (de_op o_mul (do_m (de_v 2)) (do_m (de_v 1)))) (do_m (de_v 3))))))
  (dss_one (ds_ret (de_v 2)))))
theorem ok__law_number (T : Txt K mg a) {k : Nat} : FnOk P w K mg base (L2.CX P w) (k + 1) a.f__law_number a.d__law_number ["_law_symbols", "_law_base"] (spOf K 2 m__law_number) := fn_ok T.F__law_number sc__law_number rfl (fun cdv A outer s H E hr tk hp => d__law_number T hr tk hp) is__law_number

theorem sc_number_of : FnScope N_number_of ["symbols", "base"] (defScope st_number_of) := ⟨rfl, rfl, rfl, by decide +kernel, rfl, by decide +kernel, by decide +kernel⟩
set_option maxHeartbeats 4000000 in
theorem d_number_of (T : Txt K mg a) {k : Nat} {cdv : Value} {A : Around} {outer : List Env} {s : Shared} {H : Hp} {E : XK} (hr : Room k (A.deeper (envOfC "number_of" (defScope st_number_of) s.heap.objs.size a.f_number_of cdv))) (tk : Takes (cxOf (L2.CX P w) P w K mg base N_number_of "number_of" (defScope st_number_of) a.f_number_of cdv A outer s H E) (fun c d _ H => E c d H))
    (hp : PassesOwn (model P w) (A.deeper (envOfC "number_of" (defScope st_number_of) s.heap.objs.size a.f_number_of cdv)) (envOfC "number_of" (defScope st_number_of) s.heap.objs.size a.f_number_of cdv) (cxOf (L2.CX P w) P w K mg base N_number_of "number_of" (defScope st_number_of) a.f_number_of cdv A outer s H E).xe) :
    DSs (cxOf (L2.CX P w) P w K mg base N_number_of "number_of" (defScope st_number_of) a.f_number_of cdv A outer s H E) (fun c d _ H => E c d H) mask_number_of (defBody st_number_of) (b_number_of) :=
  have sc := sc_number_of
  (dss_cons (ds_set (i := 2) sc.nd rfl (by first | exact Or.inl rfl | exact Or.inr rfl) de_int)
  (dss_cons (ds_for hp rfl (di_val (de_rev (do_m (de_v 0)))) (dg_name sc.nd rfl (by first | exact Or.inl rfl | exact Or.inr rfl)) (dss_one (ds_set (i := 2) sc.nd rfl (by first | exact Or.inl rfl | exact Or.inr rfl) (de_op o_add (do_m (de_op o_mul (do_m (de_v 2)) (do_m (de_v 1)))) (do_m (de_v 3))))))
  (dss_one (ds_ret (de_v 2)))))
theorem ok_number_of (T : Txt K mg a) {k : Nat} : FnOk P w K mg base (L2.CX P w) (k + 1) a.f_number_of a.d_number_of ["symbols", "base"] (spOf K 2 m_number_of) := fn_ok T.F_number_of sc_number_of rfl (fun cdv A outer s H E hr tk hp => d_number_of T hr tk hp) is_number_of

theorem sc_symbols_of : FnScope N_symbols_of ["number", "base"] (defScope st_symbols_of) := ⟨rfl, rfl, rfl, by decide +kernel, rfl, by decide +kernel, by decide +kernel⟩
set_option maxHeartbeats 4000000 in
theorem d_symbols_of (T : Txt K mg a) {k : Nat} {cdv : Value} {A : Around} {outer : List Env} {s : Shared} {H : Hp} {E : XK} (hr : Room k (A.deeper (envOfC "symbols_of" (defScope st_symbols_of) s.heap.objs.size a.f_symbols_of cdv))) (tk : Takes (cxOf (L2.CX P w) P w K mg base N_symbols_of "symbols_of" (defScope st_symbols_of) a.f_symbols_of cdv A outer s H E) (fun c d _ H => E c d H))
    (hp : PassesOwn (model P w) (A.deeper (envOfC "symbols_of" (defScope st_symbols_of) s.heap.objs.size a.f_symbols_of cdv)) (envOfC "symbols_of" (defScope st_symbols_of) s.heap.objs.size a.f_symbols_of cdv) (cxOf (L2.CX P w) P w K mg base N_symbols_of "symbols_of" (defScope st_symbols_of) a.f_symbols_of cdv A outer s H E).xe) :
    DSs (cxOf (L2.CX P w) P w K mg base N_symbols_of "symbols_of" (defScope st_symbols_of) a.f_symbols_of cdv A outer s H E) (fun c d _ H => E c d H) mask_symbols_of (defBody st_symbols_of) (b_symbols_of) :=
  have sc := sc_symbols_of
  (dss_cons (ds_set (i := 2) sc.nd rfl (by first | exact Or.inl rfl | exact Or.inr rfl) (de_lst da_nil))
  (dss_cons (ds_while hp (dt_cmp o_gt (do_m (de_v 0)) (do_m de_int)) (dss_cons (ds_expr (de_mL PySem.F.slot_list_append PySem.F.type_list_append m_append (do_n 2) (dos_cons (do_m (de_callTy c_int rfl T.n_int (by decide +kernel) (dos_cons (do_m (de_op o_mod (do_m (de_v 0)) (do_m (de_v 1)))) dos_nil))) dos_nil)))
  (dss_one (ds_set (i := 0) sc.nd rfl (by first | exact Or.inl rfl | exact Or.inr rfl) (de_op o_div (do_m (de_v 0)) (do_m (de_v 1)))))))
  (dss_one (ds_ret (de_callTy c_tuple rfl T.n_tuple (by decide +kernel) (dos_cons (do_n 2) dos_nil))))))
theorem ok_symbols_of (T : Txt K mg a) {k : Nat} : FnOk P w K mg base (L2.CX P w) (k + 1) a.f_symbols_of a.d_symbols_of ["number", "base"] (spOf K 2 m_symbols_of) := fn_ok T.F_symbols_of sc_symbols_of rfl (fun cdv A outer s H E hr tk hp => d_symbols_of T hr tk hp) is_symbols_of

theorem sc_law : FnScope N_law ["_law_script"] (defScope st_law) := ⟨rfl, rfl, rfl, by decide +kernel, rfl, by decide +kernel, by decide +kernel⟩
set_option maxHeartbeats 4000000 in
theorem d_law (T : Txt K mg a) {k : Nat} {k__law_pool : Nat} (h__law_pool : k__law_pool ≤ k) (G__law_pool : FnOk P w K mg base (L2.CX P w) k__law_pool a.f__law_pool a.d__law_pool ["_law_script"] (spOf K 1 m__law_pool)) {k__law_draw : Nat} (h__law_draw : k__law_draw ≤ k) (G__law_draw : FnOk P w K mg base (L2.CX P w) k__law_draw a.f__law_draw a.d__law_draw ["_law_pool_here", "_law_many"] (spOf K 2 m__law_draw)) {k__law_strip : Nat} (h__law_strip : k__law_strip ≤ k) (G__law_strip : FnOk P w K mg base (L2.CX P w) k__law_strip a.f__law_strip a.d__law_strip ["_law_symbols"] (spOf K 1 m__law_strip)) {k_start : Nat} (h_start : k_start ≤ k) (G_start : FnOk P w K mg base (L2.CX P w) k_start a.f_start a.d_start ["word"] (spOf K 1 m_start)) {k__law_like : Nat} (h__law_like : k__law_like ≤ k) (G__law_like : FnOk P w K mg base (L2.CX P w) k__law_like a.f__law_like a.d__law_like ["_law_actual", "_law_due"] (spOf K 2 (m__law_like 8))) {k_content : Nat} (h_content : k_content ≤ k) (G_content : FnOk P w K mg base (L2.CX P w) k_content a.f_content a.d_content ["configuration"] (spOf K 1 m_content)) {k__law_number : Nat} (h__law_number : k__law_number ≤ k) (G__law_number : FnOk P w K mg base (L2.CX P w) k__law_number a.f__law_number a.d__law_number ["_law_symbols", "_law_base"] (spOf K 2 m__law_number)) {k_number_of : Nat} (h_number_of : k_number_of ≤ k) (G_number_of : FnOk P w K mg base (L2.CX P w) k_number_of a.f_number_of a.d_number_of ["symbols", "base"] (spOf K 2 m_number_of)) {k_symbols_of : Nat} (h_symbols_of : k_symbols_of ≤ k) (G_symbols_of : FnOk P w K mg base (L2.CX P w) k_symbols_of a.f_symbols_of a.d_symbols_of ["number", "base"] (spOf K 2 m_symbols_of)) {cdv : Value} {A : Around} {outer : List Env} {s : Shared} {H : Hp} {E : XK} (hr : Room k (A.deeper (envOfC "law" (defScope st_law) s.heap.objs.size a.f_law cdv))) (tk : Takes (cxOf (L2.CX P w) P w K mg base N_law "law" (defScope st_law) a.f_law cdv A outer s H E) (fun c d _ H => E c d H))
    (hp : PassesOwn (model P w) (A.deeper (envOfC "law" (defScope st_law) s.heap.objs.size a.f_law cdv)) (envOfC "law" (defScope st_law) s.heap.objs.size a.f_law cdv) (cxOf (L2.CX P w) P w K mg base N_law "law" (defScope st_law) a.f_law cdv A outer s H E).xe) :
    DSs (cxOf (L2.CX P w) P w K mg base N_law "law" (defScope st_law) a.f_law cdv A outer s H E) (fun c d _ H => E c d H) mask_law (defBody st_law) (b_law) :=
  have sc := sc_law
  (dss_cons (ds_set (i := 1) sc.nd rfl (by first | exact Or.inl rfl | exact Or.inr rfl) (de_call G__law_pool tk (hr.mono (by omega)) rfl T.m__law_pool T.F__law_pool.kp T.b__law_pool (dos_cons (do_m (de_v 0)) dos_nil)))
  (dss_cons (ds_set (i := 2) sc.nd rfl (by first | exact Or.inl rfl | exact Or.inr rfl) (de_ix o_ix (do_m (de_lst (da_cons de_int (da_cons de_int (da_cons de_int (da_cons de_int da_nil)))))) (do_m (de_call G__law_draw tk (hr.mono (by omega)) rfl T.m__law_draw T.F__law_draw.kp T.b__law_draw (dos_cons (do_n 1) (dos_cons (do_m de_int) dos_nil))))))
  (dss_cons (ds_set (i := 3) sc.nd rfl (by first | exact Or.inl rfl | exact Or.inr rfl) (de_callTy c_tuple rfl T.n_tuple (by decide +kernel) (dos_cons (do_m (de_lc (own := [("_law_k", 11)]) (mask := [true, true, true, true, true, true, true, true, true, true, true, false, true, true]) rfl sc.nd (di_r1 rfl T.n_range (da_cons (de_call G__law_draw tk (hr.mono (by omega)) rfl T.m__law_draw T.F__law_draw.kp T.b__law_draw (dos_cons (do_n 1) (dos_cons (do_m de_int) dos_nil))) da_nil)) (blkOk_by (N := N_law) rfl) (fun _ _ _ _ _ => (dg_name sc.nd rfl (by first | exact Or.inl rfl | exact Or.inr rfl))) (fun _ _ _ _ _ => dts_nil) (fun _ _ _ _ _ => (de_if (dt_cmp o_gt (do_m (de_call G__law_draw takes0 (hr.mono (by omega)) rfl T.m__law_draw T.F__law_draw.kp T.b__law_draw (dos_cons (do_n 1) (dos_cons (do_m de_int) dos_nil)))) (do_m de_int)) (de_call G__law_draw takes0 (hr.mono (by omega)) rfl T.m__law_draw T.F__law_draw.kp T.b__law_draw (dos_cons (do_n 1) (dos_cons (do_m (de_v 2)) dos_nil))) de_int)))) dos_nil)))
  (dss_cons (ds_set (i := 4) sc.nd rfl (by first | exact Or.inl rfl | exact Or.inr rfl) (de_tup (da_cons de_int (da_cons (de_tup da_nil) (da_cons de_int (da_cons (de_tup da_nil) da_nil))))))
  (dss_cons (ds_if (dt_cmp (o_ne hr.units) (do_m (de_v 3)) (do_m (de_tup da_nil))) (dss_one (ds_set (i := 4) sc.nd rfl (by first | exact Or.inl rfl | exact Or.inr rfl) (de_tup (da_cons de_int (da_cons (de_tup da_nil) (da_cons (de_ix o_ix (do_m (de_v 3)) (do_m de_int)) (da_cons (de_call G__law_strip tk (hr.mono (by omega)) rfl T.m__law_strip T.F__law_strip.kp T.b__law_strip (dos_cons (do_m (de_sl (do_m (de_v 3)) (dp_some de_int) dp_none)) dos_nil)) da_nil))))))) dss_nil)
  (dss_cons (ds_if (dt_not (dt_of (de_call G__law_like tk (hr.mono (by omega)) rfl T.m__law_like T.F__law_like.kp T.b__law_like (dos_cons (do_m (de_call G_start tk (hr.mono (by omega)) rfl T.m_start T.F_start.kp T.b_start (dos_cons (do_m (de_v 3)) dos_nil))) (dos_cons (do_m (de_v 4)) dos_nil))))) (dss_one (ds_ret de_bl)) dss_nil)
  (dss_cons (ds_set (i := 5) sc.nd rfl (by first | exact Or.inl rfl | exact Or.inr rfl) (de_call G__law_strip tk (hr.mono (by omega)) rfl T.m__law_strip T.F__law_strip.kp T.b__law_strip (dos_cons (do_m (de_lc (own := [("_law_k", 11)]) (mask := [true, true, true, true, true, true, true, true, true, true, true, false, true, true]) rfl sc.nd (di_r1 rfl T.n_range (da_cons (de_call G__law_draw tk (hr.mono (by omega)) rfl T.m__law_draw T.F__law_draw.kp T.b__law_draw (dos_cons (do_n 1) (dos_cons (do_m de_int) dos_nil))) da_nil)) (blkOk_by (N := N_law) rfl) (fun _ _ _ _ _ => (dg_name sc.nd rfl (by first | exact Or.inl rfl | exact Or.inr rfl))) (fun _ _ _ _ _ => dts_nil) (fun _ _ _ _ _ => (de_call G__law_draw takes0 (hr.mono (by omega)) rfl T.m__law_draw T.F__law_draw.kp T.b__law_draw (dos_cons (do_n 1) (dos_cons (do_m (de_v 2)) dos_nil)))))) dos_nil)))
  (dss_cons (ds_set (i := 6) sc.nd rfl (by first | exact Or.inl rfl | exact Or.inr rfl) (de_call G__law_strip tk (hr.mono (by omega)) rfl T.m__law_strip T.F__law_strip.kp T.b__law_strip (dos_cons (do_m (de_lc (own := [("_law_k", 11)]) (mask := [true, true, true, true, true, true, true, true, true, true, true, false, true, true]) rfl sc.nd (di_r1 rfl T.n_range (da_cons (de_call G__law_draw tk (hr.mono (by omega)) rfl T.m__law_draw T.F__law_draw.kp T.b__law_draw (dos_cons (do_n 1) (dos_cons (do_m de_int) dos_nil))) da_nil)) (blkOk_by (N := N_law) rfl) (fun _ _ _ _ _ => (dg_name sc.nd rfl (by first | exact Or.inl rfl | exact Or.inr rfl))) (fun _ _ _ _ _ => dts_nil) (fun _ _ _ _ _ => (de_call G__law_draw takes0 (hr.mono (by omega)) rfl T.m__law_draw T.F__law_draw.kp T.b__law_draw (dos_cons (do_n 1) (dos_cons (do_m (de_v 2)) dos_nil)))))) dos_nil)))
  (dss_cons (ds_set (i := 7) sc.nd rfl (by first | exact Or.inl rfl | exact Or.inr rfl) (de_if (dt_cmp (o_eq hr.units) (do_m (de_call G__law_draw tk (hr.mono (by omega)) rfl T.m__law_draw T.F__law_draw.kp T.b__law_draw (dos_cons (do_n 1) (dos_cons (do_m de_int) dos_nil)))) (do_m de_int)) (de_call G__law_draw tk (hr.mono (by omega)) rfl T.m__law_draw T.F__law_draw.kp T.b__law_draw (dos_cons (do_n 1) (dos_cons (do_m (de_v 2)) dos_nil))) de_int))
  (dss_cons (ds_set (i := 8) sc.nd rfl (by first | exact Or.inl rfl | exact Or.inr rfl) (de_call G__law_strip tk (hr.mono (by omega)) rfl T.m__law_strip T.F__law_strip.kp T.b__law_strip (dos_cons (do_m (de_op o_add (do_m (de_op o_add (do_m (de_rev (do_m (de_v 5)))) (do_m (de_tup (da_cons (de_v 7) da_nil))))) (do_m (de_v 6)))) dos_nil)))
  (dss_cons (ds_if (dt_not (dt_of (de_call G__law_like tk (hr.mono (by omega)) rfl T.m__law_like T.F__law_like.kp T.b__law_like (dos_cons (do_m (de_call G_content tk (hr.mono (by omega)) rfl T.m_content T.F_content.kp T.b_content (dos_cons (do_m (de_tup (da_cons (de_call G__law_draw tk (hr.mono (by omega)) rfl T.m__law_draw T.F__law_draw.kp T.b__law_draw (dos_cons (do_n 1) (dos_cons (do_m de_int) dos_nil))) (da_cons (de_v 5) (da_cons (de_v 7) (da_cons (de_v 6) da_nil)))))) dos_nil))) (dos_cons (do_m (de_rev (do_m (de_call G__law_strip tk (hr.mono (by omega)) rfl T.m__law_strip T.F__law_strip.kp T.b__law_strip (dos_cons (do_m (de_rev (do_m (de_v 8)))) dos_nil))))) dos_nil))))) (dss_one (ds_ret de_bl)) dss_nil)
  (dss_cons (ds_if (dt_not (dt_of (de_call G__law_like tk (hr.mono (by omega)) rfl T.m__law_like T.F__law_like.kp T.b__law_like (dos_cons (do_m (de_call G_content tk (hr.mono (by omega)) rfl T.m_content T.F_content.kp T.b_content (dos_cons (do_m (de_call G_start tk (hr.mono (by omega)) rfl T.m_start T.F_start.kp T.b_start (dos_cons (do_m (de_v 3)) dos_nil))) dos_nil))) (dos_cons (do_m (de_rev (do_m (de_call G__law_strip tk (hr.mono (by omega)) rfl T.m__law_strip T.F__law_strip.kp T.b__law_strip (dos_cons (do_m (de_rev (do_m (de_call G__law_strip tk (hr.mono (by omega)) rfl T.m__law_strip T.F__law_strip.kp T.b__law_strip (dos_cons (do_m (de_v 3)) dos_nil))))) dos_nil))))) dos_nil))))) (dss_one (ds_ret de_bl)) dss_nil)
  (dss_cons (ds_set (i := 9) sc.nd rfl (by first | exact Or.inl rfl | exact Or.inr rfl) (de_call G__law_number tk (hr.mono (by omega)) rfl T.m__law_number T.F__law_number.kp T.b__law_number (dos_cons (do_m (de_v 3)) (dos_cons (do_m (de_v 2)) dos_nil))))
  (dss_cons (ds_if (dt_w (dw_or (dt_not (dt_of (de_call G__law_like tk (hr.mono (by omega)) rfl T.m__law_like T.F__law_like.kp T.b__law_like (dos_cons (do_m (de_call G_number_of tk (hr.mono (by omega)) rfl T.m_number_of T.F_number_of.kp T.b_number_of (dos_cons (do_m (de_v 3)) (dos_cons (do_m (de_v 2)) dos_nil)))) (dos_cons (do_m (de_v 9)) dos_nil))))) (dw_or1 (dt_not (dt_of (de_call G__law_like tk (hr.mono (by omega)) rfl T.m__law_like T.F__law_like.kp T.b__law_like (dos_cons (do_m (de_call G_symbols_of tk (hr.mono (by omega)) rfl T.m_symbols_of T.F_symbols_of.kp T.b_symbols_of (dos_cons (do_m (de_v 9)) (dos_cons (do_m (de_v 2)) dos_nil)))) (dos_cons (do_m (de_call G__law_strip tk (hr.mono (by omega)) rfl T.m__law_strip T.F__law_strip.kp T.b__law_strip (dos_cons (do_m (de_v 3)) dos_nil))) dos_nil)))))))) (dss_one (ds_ret de_bl)) dss_nil)
  (dss_cons (ds_set (i := 10) sc.nd rfl (by first | exact Or.inl rfl | exact Or.inr rfl) de_int)
  (dss_cons (ds_for hp rfl (di_r1 rfl T.n_range (da_cons (de_call G__law_draw tk (hr.mono (by omega)) rfl T.m__law_draw T.F__law_draw.kp T.b__law_draw (dos_cons (do_n 1) (dos_cons (do_m de_int) dos_nil))) da_nil)) (dg_name sc.nd rfl (by first | exact Or.inl rfl | exact Or.inr rfl)) (dss_one (ds_set (i := 10) sc.nd rfl (by first | exact Or.inl rfl | exact Or.inr rfl) (de_op o_add (do_m (de_op o_mul (do_m (de_v 10)) (do_m de_int))) (do_m (de_call G__law_draw tk (hr.mono (by omega)) rfl T.m__law_draw T.F__law_draw.kp T.b__law_draw (dos_cons (do_n 1) (dos_cons (do_m de_int) dos_nil))))))))
  (dss_cons (ds_set (i := 12) sc.nd rfl (by first | exact Or.inl rfl | exact Or.inr rfl) (de_call G_symbols_of tk (hr.mono (by omega)) rfl T.m_symbols_of T.F_symbols_of.kp T.b_symbols_of (dos_cons (do_m (de_v 10)) (dos_cons (do_m (de_v 2)) dos_nil))))
  (dss_cons (ds_if (dt_w (dw_or (dt_cmp (o_ne hr.units) (do_m (de_v 12)) (do_m (de_call G__law_strip tk (hr.mono (by omega)) rfl T.m__law_strip T.F__law_strip.kp T.b__law_strip (dos_cons (do_m (de_v 12)) dos_nil)))) (dw_or1 (dt_cmp o_gt (do_m (de_callB c_len rfl T.n_len (by decide +kernel) (dos_cons (do_m (de_lc (own := [("_law_one", 13)]) (mask := [true, true, true, true, true, true, true, true, true, true, true, true, true, false]) rfl sc.nd (di_val (de_v 12)) (blkOk_by (N := N_law) rfl) (fun _ _ _ _ _ => (dg_name sc.nd rfl (by first | exact Or.inl rfl | exact Or.inr rfl))) (fun _ _ _ _ _ => (dts_one (dt_not (dt_ch o_le o_lt de_int (de_v 13) (de_v 2))))) (fun _ _ _ _ _ => (de_v 13)))) dos_nil))) (do_m de_int))))) (dss_one (ds_ret de_bl)) dss_nil)
  (dss_one (ds_ret (de_cmp (o_eq hr.units) (do_m (de_call G__law_number tk (hr.mono (by omega)) rfl T.m__law_number T.F__law_number.kp T.b__law_number (dos_cons (do_m (de_v 12)) (dos_cons (do_m (de_v 2)) dos_nil)))) (do_m (de_v 10)))))))))))))))))))))))
theorem ok_law (T : Txt K mg a) {k : Nat} {k__law_pool : Nat} (h__law_pool : k__law_pool ≤ k) (G__law_pool : FnOk P w K mg base (L2.CX P w) k__law_pool a.f__law_pool a.d__law_pool ["_law_script"] (spOf K 1 m__law_pool)) {k__law_draw : Nat} (h__law_draw : k__law_draw ≤ k) (G__law_draw : FnOk P w K mg base (L2.CX P w) k__law_draw a.f__law_draw a.d__law_draw ["_law_pool_here", "_law_many"] (spOf K 2 m__law_draw)) {k__law_strip : Nat} (h__law_strip : k__law_strip ≤ k) (G__law_strip : FnOk P w K mg base (L2.CX P w) k__law_strip a.f__law_strip a.d__law_strip ["_law_symbols"] (spOf K 1 m__law_strip)) {k_start : Nat} (h_start : k_start ≤ k) (G_start : FnOk P w K mg base (L2.CX P w) k_start a.f_start a.d_start ["word"] (spOf K 1 m_start)) {k__law_like : Nat} (h__law_like : k__law_like ≤ k) (G__law_like : FnOk P w K mg base (L2.CX P w) k__law_like a.f__law_like a.d__law_like ["_law_actual", "_law_due"] (spOf K 2 (m__law_like 8))) {k_content : Nat} (h_content : k_content ≤ k) (G_content : FnOk P w K mg base (L2.CX P w) k_content a.f_content a.d_content ["configuration"] (spOf K 1 m_content)) {k__law_number : Nat} (h__law_number : k__law_number ≤ k) (G__law_number : FnOk P w K mg base (L2.CX P w) k__law_number a.f__law_number a.d__law_number ["_law_symbols", "_law_base"] (spOf K 2 m__law_number)) {k_number_of : Nat} (h_number_of : k_number_of ≤ k) (G_number_of : FnOk P w K mg base (L2.CX P w) k_number_of a.f_number_of a.d_number_of ["symbols", "base"] (spOf K 2 m_number_of)) {k_symbols_of : Nat} (h_symbols_of : k_symbols_of ≤ k) (G_symbols_of : FnOk P w K mg base (L2.CX P w) k_symbols_of a.f_symbols_of a.d_symbols_of ["number", "base"] (spOf K 2 m_symbols_of)) : FnOk P w K mg base (L2.CX P w) (k + 1) a.f_law a.d_law ["_law_script"] (spOf K 1 m_law) := fn_ok T.F_law sc_law rfl (fun cdv A outer s H E hr tk hp => d_law T h__law_pool G__law_pool h__law_draw G__law_draw h__law_strip G__law_strip h_start G_start h__law_like G__law_like h_content G_content h__law_number G__law_number h_number_of G_number_of h_symbols_of G_symbols_of hr tk hp) is_law

theorem law_ok (T : Txt K mg a) : FnOk P w K mg base (L2.CX P w) 10 a.f_law a.d_law ["_law_script"] (spOf K 1 m_law) := by
  have G__law_pool : FnOk P w K mg base (L2.CX P w) 1 a.f__law_pool a.d__law_pool ["_law_script"] (spOf K 1 m__law_pool) := ok__law_pool T (k := 0)
  have G__law_spread : FnOk P w K mg base (L2.CX P w) 1 a.f__law_spread a.d__law_spread ["_law_cell"] (spOf K 1 m__law_spread) := ok__law_spread T (k := 0)
  have G__law_draw : FnOk P w K mg base (L2.CX P w) 2 a.f__law_draw a.d__law_draw ["_law_pool_here", "_law_many"] (spOf K 2 m__law_draw) := ok__law_draw T (k := 1) (k__law_spread := 1) (by decide) G__law_spread
  have G__law_strip : FnOk P w K mg base (L2.CX P w) 1 a.f__law_strip a.d__law_strip ["_law_symbols"] (spOf K 1 m__law_strip) := ok__law_strip T (k := 0)
  have G_stripped : FnOk P w K mg base (L2.CX P w) 1 a.f_stripped a.d_stripped ["symbols"] (spOf K 1 m_stripped) := ok_stripped T (k := 0)
  have G_start : FnOk P w K mg base (L2.CX P w) 2 a.f_start a.d_start ["word"] (spOf K 1 m_start) := ok_start T (k := 1) (k_stripped := 1) (by decide) G_stripped
  have G__law_like : FnOk P w K mg base (L2.CX P w) 9 a.f__law_like a.d__law_like ["_law_actual", "_law_due"] (spOf K 2 (m__law_like 8)) := ok__law_like T (k := 0) 8
  have G_content : FnOk P w K mg base (L2.CX P w) 2 a.f_content a.d_content ["configuration"] (spOf K 1 m_content) := ok_content T (k := 1) (k_stripped := 1) (by decide) G_stripped
  have G__law_number : FnOk P w K mg base (L2.CX P w) 1 a.f__law_number a.d__law_number ["_law_symbols", "_law_base"] (spOf K 2 m__law_number) := ok__law_number T (k := 0)
  have G_number_of : FnOk P w K mg base (L2.CX P w) 1 a.f_number_of a.d_number_of ["symbols", "base"] (spOf K 2 m_number_of) := ok_number_of T (k := 0)
  have G_symbols_of : FnOk P w K mg base (L2.CX P w) 1 a.f_symbols_of a.d_symbols_of ["number", "base"] (spOf K 2 m_symbols_of) := ok_symbols_of T (k := 0)
  have G_law : FnOk P w K mg base (L2.CX P w) 10 a.f_law a.d_law ["_law_script"] (spOf K 1 m_law) := ok_law T (k := 9) (k__law_pool := 1) (by decide) G__law_pool (k__law_draw := 2) (by decide) G__law_draw (k__law_strip := 1) (by decide) G__law_strip (k_start := 2) (by decide) G_start (k__law_like := 9) (by decide) G__law_like (k_content := 2) (by decide) G_content (k__law_number := 1) (by decide) G__law_number (k_number_of := 1) (by decide) G_number_of (k_symbols_of := 1) (by decide) G_symbols_of
  exact G_law
end
theorem law_start {K : PySem.W.Frag} {H : Hp} {a : Addr} {ns : List Int} (hl : ns.length ≤ 63) (hS : SqL K H a (ns.map V.int)) : spOf K 1 m_law [.ref a] H (fun v _ => v = .bl true) fun _ _ _ => False :=
  start_law hS fun R h => by
    unfold m_law
    exact ⟨ns, hl, rfl, h⟩
theorem all_mk {l : PySem.W.OpenLaw} {w : World} {K : PySem.W.Frag} {h : Heap} {mg : Str → Option Value} {fa : Addr} (X : K.In h) (G : h.Ns mainGlobals mg) (hfa : mg "law" = some (.ref fa))
    {f0 : Addr} {od0 an0 : Option Addr} {sl0 : Array (Option Value)} {oc0 kV0 dc0 pm0 cd0 ct0 : Value} (a0 : PySem.W.nsIn K mainGlobals "_law_pool" = some (some (.ref f0))) (l0 : K.lookup f0 = some ⟨oc0, od0, .func (PySem.W.fnOf "_law_pool" "_law_pool" (defArgs st__law_pool) (defBody st__law_pool) (defScope st__law_pool) .none kV0 dc0 pm0 an0 cd0 ct0), sl0⟩) (c0 : PySem.W.codeIn K cd0 "_law_pool" = true) (k0 : PySem.W.keepIn K (.ref f0) = true)
    {f1 : Addr} {od1 an1 : Option Addr} {sl1 : Array (Option Value)} {oc1 kV1 dc1 pm1 cd1 ct1 : Value} (a1 : PySem.W.nsIn K mainGlobals "_law_spread" = some (some (.ref f1))) (l1 : K.lookup f1 = some ⟨oc1, od1, .func (PySem.W.fnOf "_law_spread" "_law_spread" (defArgs st__law_spread) (defBody st__law_spread) (defScope st__law_spread) .none kV1 dc1 pm1 an1 cd1 ct1), sl1⟩) (c1 : PySem.W.codeIn K cd1 "_law_spread" = true) (k1 : PySem.W.keepIn K (.ref f1) = true)
    {f2 : Addr} {od2 an2 : Option Addr} {sl2 : Array (Option Value)} {oc2 kV2 dc2 pm2 cd2 ct2 : Value} (a2 : PySem.W.nsIn K mainGlobals "_law_draw" = some (some (.ref f2))) (l2 : K.lookup f2 = some ⟨oc2, od2, .func (PySem.W.fnOf "_law_draw" "_law_draw" (defArgs st__law_draw) (defBody st__law_draw) (defScope st__law_draw) .none kV2 dc2 pm2 an2 cd2 ct2), sl2⟩) (c2 : PySem.W.codeIn K cd2 "_law_draw" = true) (k2 : PySem.W.keepIn K (.ref f2) = true)
    {f3 : Addr} {od3 an3 : Option Addr} {sl3 : Array (Option Value)} {oc3 kV3 dc3 pm3 cd3 ct3 : Value} (a3 : PySem.W.nsIn K mainGlobals "_law_strip" = some (some (.ref f3))) (l3 : K.lookup f3 = some ⟨oc3, od3, .func (PySem.W.fnOf "_law_strip" "_law_strip" (defArgs st__law_strip) (defBody st__law_strip) (defScope st__law_strip) .none kV3 dc3 pm3 an3 cd3 ct3), sl3⟩) (c3 : PySem.W.codeIn K cd3 "_law_strip" = true) (k3 : PySem.W.keepIn K (.ref f3) = true)
    {f4 : Addr} {od4 an4 : Option Addr} {sl4 : Array (Option Value)} {oc4 kV4 dc4 pm4 cd4 ct4 : Value} (a4 : PySem.W.nsIn K mainGlobals "stripped" = some (some (.ref f4))) (l4 : K.lookup f4 = some ⟨oc4, od4, .func (PySem.W.fnOf "stripped" "stripped" (defArgs st_stripped) (defBody st_stripped) (defScope st_stripped) .none kV4 dc4 pm4 an4 cd4 ct4), sl4⟩) (c4 : PySem.W.codeIn K cd4 "stripped" = true) (k4 : PySem.W.keepIn K (.ref f4) = true)
    {f5 : Addr} {od5 an5 : Option Addr} {sl5 : Array (Option Value)} {oc5 kV5 dc5 pm5 cd5 ct5 : Value} (a5 : PySem.W.nsIn K mainGlobals "start" = some (some (.ref f5))) (l5 : K.lookup f5 = some ⟨oc5, od5, .func (PySem.W.fnOf "start" "start" (defArgs st_start) (defBody st_start) (defScope st_start) .none kV5 dc5 pm5 an5 cd5 ct5), sl5⟩) (c5 : PySem.W.codeIn K cd5 "start" = true) (k5 : PySem.W.keepIn K (.ref f5) = true)
    {f6 : Addr} {od6 an6 : Option Addr} {sl6 : Array (Option Value)} {oc6 kV6 dc6 pm6 cd6 ct6 : Value} (a6 : PySem.W.nsIn K mainGlobals "_law_like" = some (some (.ref f6))) (l6 : K.lookup f6 = some ⟨oc6, od6, .func (PySem.W.fnOf "_law_like" "_law_like" (defArgs st__law_like) (defBody st__law_like) (defScope st__law_like) .none kV6 dc6 pm6 an6 cd6 ct6), sl6⟩) (c6 : PySem.W.codeIn K cd6 "_law_like" = true) (k6 : PySem.W.keepIn K (.ref f6) = true)
    {f7 : Addr} {od7 an7 : Option Addr} {sl7 : Array (Option Value)} {oc7 kV7 dc7 pm7 cd7 ct7 : Value} (a7 : PySem.W.nsIn K mainGlobals "content" = some (some (.ref f7))) (l7 : K.lookup f7 = some ⟨oc7, od7, .func (PySem.W.fnOf "content" "content" (defArgs st_content) (defBody st_content) (defScope st_content) .none kV7 dc7 pm7 an7 cd7 ct7), sl7⟩) (c7 : PySem.W.codeIn K cd7 "content" = true) (k7 : PySem.W.keepIn K (.ref f7) = true)
    {f8 : Addr} {od8 an8 : Option Addr} {sl8 : Array (Option Value)} {oc8 kV8 dc8 pm8 cd8 ct8 : Value} (a8 : PySem.W.nsIn K mainGlobals "_law_number" = some (some (.ref f8))) (l8 : K.lookup f8 = some ⟨oc8, od8, .func (PySem.W.fnOf "_law_number" "_law_number" (defArgs st__law_number) (defBody st__law_number) (defScope st__law_number) .none kV8 dc8 pm8 an8 cd8 ct8), sl8⟩) (c8 : PySem.W.codeIn K cd8 "_law_number" = true) (k8 : PySem.W.keepIn K (.ref f8) = true)
    {f9 : Addr} {od9 an9 : Option Addr} {sl9 : Array (Option Value)} {oc9 kV9 dc9 pm9 cd9 ct9 : Value} (a9 : PySem.W.nsIn K mainGlobals "number_of" = some (some (.ref f9))) (l9 : K.lookup f9 = some ⟨oc9, od9, .func (PySem.W.fnOf "number_of" "number_of" (defArgs st_number_of) (defBody st_number_of) (defScope st_number_of) .none kV9 dc9 pm9 an9 cd9 ct9), sl9⟩) (c9 : PySem.W.codeIn K cd9 "number_of" = true) (k9 : PySem.W.keepIn K (.ref f9) = true)
    {f10 : Addr} {od10 an10 : Option Addr} {sl10 : Array (Option Value)} {oc10 kV10 dc10 pm10 cd10 ct10 : Value} (a10 : PySem.W.nsIn K mainGlobals "symbols_of" = some (some (.ref f10))) (l10 : K.lookup f10 = some ⟨oc10, od10, .func (PySem.W.fnOf "symbols_of" "symbols_of" (defArgs st_symbols_of) (defBody st_symbols_of) (defScope st_symbols_of) .none kV10 dc10 pm10 an10 cd10 ct10), sl10⟩) (c10 : PySem.W.codeIn K cd10 "symbols_of" = true) (k10 : PySem.W.keepIn K (.ref f10) = true)
    {f11 : Addr} {od11 an11 : Option Addr} {sl11 : Array (Option Value)} {oc11 kV11 dc11 pm11 cd11 ct11 : Value} (a11 : PySem.W.nsIn K mainGlobals "law" = some (some (.ref f11))) (l11 : K.lookup f11 = some ⟨oc11, od11, .func (PySem.W.fnOf "law" "law" (defArgs st_law) (defBody st_law) (defScope st_law) .none kV11 dc11 pm11 an11 cd11 ct11), sl11⟩) (c11 : PySem.W.codeIn K cd11 "law" = true) (k11 : PySem.W.keepIn K (.ref f11) = true)
    {tt0 : Tok} (q0q : PySem.W.nsIn K mainGlobals "BLANK" = some (some (.int 0 tt0)))
    (z0 : PySem.W.nsIn K mainGlobals "all" = some none)
    (z1 : PySem.W.nsIn K mainGlobals "bool" = some none)
    (z2 : PySem.W.nsIn K mainGlobals "int" = some none)
    (z3 : PySem.W.nsIn K mainGlobals "isinstance" = some none)
    (z4 : PySem.W.nsIn K mainGlobals "len" = some none)
    (z5 : PySem.W.nsIn K mainGlobals "list" = some none)
    (z6 : PySem.W.nsIn K mainGlobals "range" = some none)
    (z7 : PySem.W.nsIn K mainGlobals "str" = some none)
    (z8 : PySem.W.nsIn K mainGlobals "tuple" = some none)
    : ∃ fd : FuncData, (∀ (s : Shared) (v : Value), BindsTo s fd ⟨[v], []⟩ [("_law_script", v)]) ∧ ∀ base : Heap, K.In base → base.Ns mainGlobals mg → FnOk l.prog w K mg base (L2.CX l.prog w) 10 fa fd ["_law_script"] (spOf K 1 m_law) := by
  have e := hfa.symm.trans (PySem.W.mg_of X G a11)
  cases e
  have F0 := fun_mk (st := st__law_pool) l0 c0 k0
  have B0 := F0.binds (ps := ["_law_script"]) fun _ _ _ _ _ _ us hl => match us, hl with | [_], _ => rfl
  have F1 := fun_mk (st := st__law_spread) l1 c1 k1
  have B1 := F1.binds (ps := ["_law_cell"]) fun _ _ _ _ _ _ us hl => match us, hl with | [_], _ => rfl
  have F2 := fun_mk (st := st__law_draw) l2 c2 k2
  have B2 := F2.binds (ps := ["_law_pool_here", "_law_many"]) fun _ _ _ _ _ _ us hl => match us, hl with | [_, _], _ => rfl
  have F3 := fun_mk (st := st__law_strip) l3 c3 k3
  have B3 := F3.binds (ps := ["_law_symbols"]) fun _ _ _ _ _ _ us hl => match us, hl with | [_], _ => rfl
  have F4 := fun_mk (st := st_stripped) l4 c4 k4
  have B4 := F4.binds (ps := ["symbols"]) fun _ _ _ _ _ _ us hl => match us, hl with | [_], _ => rfl
  have F5 := fun_mk (st := st_start) l5 c5 k5
  have B5 := F5.binds (ps := ["word"]) fun _ _ _ _ _ _ us hl => match us, hl with | [_], _ => rfl
  have F6 := fun_mk (st := st__law_like) l6 c6 k6
  have B6 := F6.binds (ps := ["_law_actual", "_law_due"]) fun _ _ _ _ _ _ us hl => match us, hl with | [_, _], _ => rfl
  have F7 := fun_mk (st := st_content) l7 c7 k7
  have B7 := F7.binds (ps := ["configuration"]) fun _ _ _ _ _ _ us hl => match us, hl with | [_], _ => rfl
  have F8 := fun_mk (st := st__law_number) l8 c8 k8
  have B8 := F8.binds (ps := ["_law_symbols", "_law_base"]) fun _ _ _ _ _ _ us hl => match us, hl with | [_, _], _ => rfl
  have F9 := fun_mk (st := st_number_of) l9 c9 k9
  have B9 := F9.binds (ps := ["symbols", "base"]) fun _ _ _ _ _ _ us hl => match us, hl with | [_, _], _ => rfl
  have F10 := fun_mk (st := st_symbols_of) l10 c10 k10
  have B10 := F10.binds (ps := ["number", "base"]) fun _ _ _ _ _ _ us hl => match us, hl with | [_, _], _ => rfl
  have F11 := fun_mk (st := st_law) l11 c11 k11
  have B11 := F11.binds (ps := ["_law_script"]) fun _ _ _ _ _ _ us hl => match us, hl with | [_], _ => rfl
  have T : Txt K mg ⟨_, _, _, _, _, _, _, _, _, _, _, _, _, _, _, _, _, _, _, _, _, _, _, _, _⟩ := ⟨F0, PySem.W.mg_of X G a0, B0, F1, PySem.W.mg_of X G a1, B1, F2, PySem.W.mg_of X G a2, B2, F3, PySem.W.mg_of X G a3, B3, F4, PySem.W.mg_of X G a4, B4, F5, PySem.W.mg_of X G a5, B5, F6, PySem.W.mg_of X G a6, B6, F7, PySem.W.mg_of X G a7, B7, F8, PySem.W.mg_of X G a8, B8, F9, PySem.W.mg_of X G a9, B9, F10, PySem.W.mg_of X G a10, B10, F11, PySem.W.mg_of X G a11, B11, PySem.W.mg_of X G q0q, PySem.W.mg_none_of X G z0, PySem.W.mg_none_of X G z1, PySem.W.mg_none_of X G z2, PySem.W.mg_none_of X G z3, PySem.W.mg_none_of X G z4, PySem.W.mg_none_of X G z5, PySem.W.mg_none_of X G z6, PySem.W.mg_none_of X G z7, PySem.W.mg_none_of X G z8⟩
  exact ⟨_, fun s v => .of_eq rfl, fun base _ _ => law_ok T⟩
end K04
open PySem PySem.W PyProof.Rows
set_option maxHeartbeats 0 in
theorem PySem.Challenge.cw_translatory_k04_tapes_and_their_numbers_holds : PySem.Challenge.rw_translatory_k04_tapes_and_their_numbers.Holds := by
  w_on; o_law; k_head; (case hw => w_witness2)
  k_fill
  refine L2.walk_of (l := PySem.Challenge.rw_translatory_k04_tapes_and_their_numbers) (n := 63) (k := 10) (x := "_law_script") (CX := fun w => L2.CX PySem.Challenge.rw_translatory_k04_tapes_and_their_numbers.prog w) (sp := fun w => DM.spOf _ 1 K04.m_law) rfl (by decide) rfl ⟨rfl, by decide, by decide⟩ (fun w h Y => PySem.W.kIn_of Y) ?F (fun _ _ a ns hl _ hS => K04.law_start hl hS) (fun _ _ _ _ _ h => DM.cx_false h)
  case F =>
    intro w mg fa h KX G hmg
    refine' K04.all_mk KX G hmg ?a0 ?l0 ?c0 ?k0 ?a1 ?l1 ?c1 ?k1 ?a2 ?l2 ?c2 ?k2 ?a3 ?l3 ?c3 ?k3 ?a4 ?l4 ?c4 ?k4 ?a5 ?l5 ?c5 ?k5 ?a6 ?l6 ?c6 ?k6 ?a7 ?l7 ?c7 ?k7 ?a8 ?l8 ?c8 ?k8 ?a9 ?l9 ?c9 ?k9 ?a10 ?l10 ?c10 ?k10 ?a11 ?l11 ?c11 ?k11 ?q0q ?z0 ?z1 ?z2 ?z3 ?z4 ?z5 ?z6 ?z7 ?z8
    (case a0 => k_is); (case l0 => k_is); (case c0 => k_is); (case k0 => k_is); (case a1 => k_is); (case l1 => k_is); (case c1 => k_is); (case k1 => k_is); (case a2 => k_is); (case l2 => k_is); (case c2 => k_is); (case k2 => k_is); (case a3 => k_is); (case l3 => k_is); (case c3 => k_is); (case k3 => k_is); (case a4 => k_is); (case l4 => k_is); (case c4 => k_is); (case k4 => k_is); (case a5 => k_is); (case l5 => k_is); (case c5 => k_is); (case k5 => k_is); (case a6 => k_is); (case l6 => k_is); (case c6 => k_is); (case k6 => k_is); (case a7 => k_is); (case l7 => k_is); (case c7 => k_is); (case k7 => k_is); (case a8 => k_is); (case l8 => k_is); (case c8 => k_is); (case k8 => k_is); (case a9 => k_is); (case l9 => k_is); (case c9 => k_is); (case k9 => k_is); (case a10 => k_is); (case l10 => k_is); (case c10 => k_is); (case k10 => k_is); (case a11 => k_is); (case l11 => k_is); (case c11 => k_is); (case k11 => k_is); (case q0q => k_is); (case z0 => k_is); (case z1 => k_is); (case z2 => k_is); (case z3 => k_is); (case z4 => k_is); (case z5 => k_is); (case z6 => k_is); (case z7 => k_is); (case z8 => k_is)
