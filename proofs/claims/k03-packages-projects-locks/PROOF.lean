import PyProof.Rows.All
import Wide.All
import OpenK.AllK
import Wide.FinOn
import HandS.ForMost
import HandS.ForExc
import HandS.TupAny
import HandS.TupLe
import HandS.Deep
import HandS.CallSlots
import HandS.IsInst
import HandS.ExcIs
import HandS.TryMany
import HandS.StrMore
import HandS.SortKw
import HandS.Codes
import KE.DataEq
import KE.DataCmp
import KE.SortData
import KE.SortKeyHeap
import KE.SortCalls
import PySem.Challenge.RW_peershelf_k03_packages_projects_locks
set_option Elab.async false
set_option linter.all false
set_option maxRecDepth 100000
set_option maxHeartbeats 4000000
/-! U1: data over the hand layer: frozen lists, what a value stands for, the logical heap, judgements. -/
namespace U
open PySem PySem.Spec PyProof.Rows L2

abbrev D := PyData

/-- a list that no code changes any more -/
def FzL (H : Hp) (a : Addr) (xs : List V) : Prop := ∃ o, H a = some (.frz o (.lst xs))
theorem FzL.sq {K : PySem.W.Frag} {H : Hp} {a : Addr} {xs : List V} (h : FzL H a xs) : SqL K H a xs := by
  obtain ⟨o, h⟩ := h
  exact .inl (.inr ⟨o, h⟩)
/-- the script's list: it may be one of the module's -/
def FzK (K : PySem.W.Frag) (H : Hp) (a : Addr) (xs : List V) : Prop :=
  FzL H a xs ∨ ∃ (o : Obj) (its : Array Value) (n : Nat), K.lookup a = some o ∧ o.cls = .type "list" ∧ o.dict = none ∧ o.data = .seq its n ∧ its.size ≤ sizeLine ∧ Vals xs its.toList
theorem FzK.sq {K : PySem.W.Frag} {H : Hp} {a : Addr} {xs : List V} (h : FzK K H a xs) : SqL K H a xs := by
  rcases h with h | h
  · exact h.sq
  · exact .inr h

mutual
inductive Rp (K : PySem.W.Frag) (H : Hp) : V → D → Prop
  | non : Rp K H .non .none
  | bl (b : Bool) : Rp K H (.bl b) (.bool b)
  | int (i : Int) : Rp K H (.int i) (.int i)
  | str (x : Str) : Rp K H (.str x) (.str x)
  | lst {a : Addr} {xs : List V} {ds : List D} : FzL H a xs → RpAll K H xs ds → Rp K H (.ref a) (.list ds)
  | tup {a : Addr} {xs : List V} {ds : List D} : SqT K H a xs → RpAll K H xs ds → Rp K H (.ref a) (.tuple ds)
inductive RpAll (K : PySem.W.Frag) (H : Hp) : List V → List D → Prop
  | nil : RpAll K H [] []
  | cons {v : V} {vs : List V} {d : D} {ds : List D} : Rp K H v d → RpAll K H vs ds → RpAll K H (v :: vs) (d :: ds)
end

/-- what never changes stays -/
structure Mono (H H' : Hp) : Prop where
  tup : ∀ b xs, H b = some (.tup xs) → H' b = some (.tup xs)
  frz : ∀ b o u, H b = some (.frz o u) → H' b = some (.frz o u)
theorem Mono.refl (H : Hp) : Mono H H := ⟨fun _ _ h => h, fun _ _ _ h => h⟩
theorem Mono.trans {H H1 H2 : Hp} (a : Mono H H1) (b : Mono H1 H2) : Mono H H2 := ⟨fun c xs h => b.tup c xs (a.tup c xs h), fun c o u h => b.frz c o u (a.frz c o u h)⟩
theorem Mono.fzl {H H' : Hp} {a : Addr} {xs : List V} (m : Mono H H') (h : FzL H a xs) : FzL H' a xs := let ⟨o, h⟩ := h; ⟨o, m.frz _ _ _ h⟩
theorem Mono.fzk {K : PySem.W.Frag} {H H' : Hp} {a : Addr} {xs : List V} (m : Mono H H') (h : FzK K H a xs) : FzK K H' a xs := by
  rcases h with h | h
  · exact .inl (m.fzl h)
  · exact .inr h
theorem Mono.sqt {K : PySem.W.Frag} {H H' : Hp} {a : Addr} {xs : List V} (m : Mono H H') (h : SqT K H a xs) : SqT K H' a xs := by
  rcases h with (h | ⟨o, h⟩) | h
  · exact .inl (.inl (m.tup _ _ h))
  · exact .inl (.inr ⟨o, m.frz _ _ _ h⟩)
  · exact .inr h

mutual
theorem Rp.mono {K : PySem.W.Frag} {H H' : Hp} (m : Mono H H') : ∀ {v : V} {d : D}, Rp K H v d → Rp K H' v d
  | _, _, .non => .non
  | _, _, .bl b => .bl b
  | _, _, .int i => .int i
  | _, _, .str x => .str x
  | _, _, .lst h hs => .lst (m.fzl h) (RpAll.mono m hs)
  | _, _, .tup h hs => .tup (m.sqt h) (RpAll.mono m hs)
theorem RpAll.mono {K : PySem.W.Frag} {H H' : Hp} (m : Mono H H') : ∀ {vs : List V} {ds : List D}, RpAll K H vs ds → RpAll K H' vs ds
  | _, _, .nil => .nil
  | _, _, .cons h t => .cons (Rp.mono m h) (RpAll.mono m t)
end
mutual
theorem Rp.dp {K : PySem.W.Frag} {H : Hp} : ∀ {v : V} {d : D}, Rp K H v d → Dp K H v d
  | _, _, .non => .non
  | _, _, .bl b => .bl b
  | _, _, .int i => .int i
  | _, _, .str x => .str x
  | _, _, .lst h hs => .lst h.sq (RpAll.dp hs)
  | _, _, .tup h hs => .tup h (RpAll.dp hs)
theorem RpAll.dp {K : PySem.W.Frag} {H : Hp} : ∀ {vs : List V} {ds : List D}, RpAll K H vs ds → DpAll K H vs ds
  | _, _, .nil => .nil
  | _, _, .cons h t => .cons (Rp.dp h) (RpAll.dp t)
end
section
variable {K : PySem.W.Frag} {H : Hp}
theorem RpAll.length : ∀ {vs : List V} {ds : List D}, RpAll K H vs ds → vs.length = ds.length
  | _, _, .nil => rfl
  | _, _, .cons _ t => congrArg (· + 1) (RpAll.length t)
theorem RpAll.append : ∀ {vs ws : List V} {ds es : List D}, RpAll K H vs ds → RpAll K H ws es → RpAll K H (vs ++ ws) (ds ++ es)
  | _, _, _, _, .nil, h => h
  | _, _, _, _, .cons h t, q => .cons h (RpAll.append t q)
theorem RpAll.get : ∀ {vs : List V} {ds : List D} {i : Nat} {d : D}, RpAll K H vs ds → ds[i]? = some d → ∃ v, vs[i]? = some v ∧ Rp K H v d
  | _, _, i, _, .nil, e => by simp at e
  | _, _, 0, _, .cons h _, e => by simp at e; subst e; exact ⟨_, rfl, h⟩
  | _, _, i + 1, d, .cons _ t, e => by
    obtain ⟨v, h1, h2⟩ := RpAll.get (i := i) (d := d) t (by simpa using e)
    exact ⟨v, by simpa using h1, h2⟩
theorem RpAll.getV : ∀ {vs : List V} {ds : List D} {i : Nat} {v : V}, RpAll K H vs ds → vs[i]? = some v → ∃ d, ds[i]? = some d ∧ Rp K H v d
  | _, _, i, _, .nil, e => by simp at e
  | _, _, 0, _, .cons h _, e => by simp at e; subst e; exact ⟨_, rfl, h⟩
  | _, _, i + 1, d, .cons _ t, e => by
    obtain ⟨v, h1, h2⟩ := RpAll.getV (i := i) (v := d) t (by simpa using e)
    exact ⟨v, by simpa using h1, h2⟩
theorem RpAll.take : ∀ {vs : List V} {ds : List D} (n : Nat), RpAll K H vs ds → RpAll K H (vs.take n) (ds.take n)
  | _, _, 0, _ => .nil
  | _, _, _ + 1, .nil => .nil
  | _, _, n + 1, .cons h t => .cons h (RpAll.take n t)
theorem RpAll.drop : ∀ {vs : List V} {ds : List D} (n : Nat), RpAll K H vs ds → RpAll K H (vs.drop n) (ds.drop n)
  | _, _, 0, r => r
  | _, _, _ + 1, .nil => .nil
  | _, _, n + 1, .cons _ t => RpAll.drop n t
theorem RpAll.set {v : V} {d : D} (r : Rp K H v d) : ∀ {vs : List V} {ds : List D} (i : Nat), RpAll K H vs ds → RpAll K H (vs.set i v) (ds.set i d)
  | _, _, _, .nil => .nil
  | _, _, 0, .cons _ t => .cons r t
  | _, _, i + 1, .cons q t => .cons q (RpAll.set r i t)
theorem RpAll.erase : ∀ {vs : List V} {ds : List D} (i : Nat), RpAll K H vs ds → RpAll K H (vs.eraseIdx i) (ds.eraseIdx i)
  | _, _, _, .nil => .nil
  | _, _, 0, .cons _ t => t
  | _, _, i + 1, .cons q t => .cons q (RpAll.erase i t)
theorem RpAll.dropLast : ∀ {vs : List V} {ds : List D}, RpAll K H vs ds → RpAll K H vs.dropLast ds.dropLast
  | _, _, .nil => .nil
  | _, _, .cons _ .nil => .nil
  | _, _, .cons h (.cons h2 t) => .cons h (RpAll.dropLast (.cons h2 t))
theorem RpAll.rev {vs : List V} {ds : List D} (r : RpAll K H vs ds) : RpAll K H vs.reverse ds.reverse := by
  induction r using RpAll.rec (motive_1 := fun _ _ _ => True) with
  | nil => exact .nil
  | cons h t ih1 ih => rw [List.reverse_cons, List.reverse_cons]; exact ih.append (.cons h .nil)
  | _ => trivial
theorem RpAll.rep {vs : List V} {ds : List D} (r : RpAll K H vs ds) : ∀ n, RpAll K H (List.replicate n vs).flatten (List.replicate n ds).flatten
  | 0 => .nil
  | n + 1 => by rw [List.replicate_succ, List.replicate_succ, List.flatten_cons, List.flatten_cons]; exact r.append (RpAll.rep r n)
theorem RpAll.ints : ∀ ns : List Int, RpAll K H (ns.map V.int) (ns.map PyData.int)
  | [] => .nil
  | n :: r => .cons (.int n) (RpAll.ints r)
theorem RpAll.strs : ∀ ns : List Str, RpAll K H (ns.map V.str) (ns.map PyData.str)
  | [] => .nil
  | n :: r => .cons (.str n) (RpAll.strs r)
theorem RpAll.bls_inv : ∀ {bs : List Bool} {vs : List V}, RpAll K H vs (bs.map PyData.bool) → vs = bs.map V.bl
  | [], _, h => by cases h; rfl
  | b :: r, _, h => by
    cases h with
    | cons h t => cases h; rw [RpAll.bls_inv t]; rfl
theorem RpAll.ints_inv : ∀ {ns : List Int} {vs : List V}, RpAll K H vs (ns.map PyData.int) → vs = ns.map V.int
  | [], _, h => by cases h; rfl
  | b :: r, _, h => by
    cases h with
    | cons h t => cases h; rw [RpAll.ints_inv t]; rfl
theorem RpAll.strs_inv : ∀ {ns : List Str} {vs : List V}, RpAll K H vs (ns.map PyData.str) → vs = ns.map V.str
  | [], _, h => by cases h; rfl
  | b :: r, _, h => by
    cases h with
    | cons h t => cases h; rw [RpAll.strs_inv t]; rfl
end

/-! ### slots, the logical heap -/
/-- an exception: its class's name in the module, its fields -/
structure XV where
  cls : Str
  fs : List (Str × D)
/-- what a slot or an expression holds: data, a logical object, a list of one's own (read or changed at its slot alone), a caught exception, the script -/
inductive SV where
  | val (d : D) | ref (n : Nat) | own (ds : List D) | exc (x : XV) | scr (ns : List Int)
inductive GO where
  | lst (xs : List SV)
  | ins (C : Addr) (fs : List (Str × SV))
abbrev LH := List GO
abbrev DS := List (Option SV)

def RpF (K : PySem.W.Frag) (H : Hp) : List (Str × V) → List (Str × D) → Prop := Paired fun p q => p.1 = q.1 ∧ Rp K H p.2 q.2
/-- an exception's class and own dict -/
def RelX (K : PySem.W.Frag) (mg : Str → Option Value) (H : Hp) (c : Value) (dd : Option Addr) (x : XV) : Prop :=
  mg x.cls = some c ∧ ((dd = none ∧ x.fs = []) ∨ ∃ d fs, (dd = some d ∧ x.fs ≠ []) ∧ H d = some (.xd fs) ∧ RpF K H fs x.fs)
/-- a value stands for sv -/
def RelSV (K : PySem.W.Frag) (H : Hp) (mu : List Addr) (v : V) : SV → Prop
  | .val d => Rp K H v d
  | .ref n => ∃ a, mu[n]? = some a ∧ v = .ref a
  | .own ds => ∃ a xs, v = .ref a ∧ H a = some (.lst xs) ∧ a ∉ mu ∧ RpAll K H xs ds
  | .exc _ => False
  | .scr ns => ∃ a, v = .ref a ∧ FzK K H a (ns.map V.int)
/-- what may lie within an object -/
def Plain : SV → Prop
  | .val _ => True
  | .ref _ => True
  | _ => False
inductive All2 {α β : Type} (R : α → β → Prop) : List α → List β → Prop
  | nil : All2 R [] []
  | cons {a b as bs} : R a b → All2 R as bs → All2 R (a :: as) (b :: bs)
def RelPV (K : PySem.W.Frag) (H : Hp) (mu : List Addr) (v : V) (s : SV) : Prop := Plain s ∧ RelSV K H mu v s
def RelGO (K : PySem.W.Frag) (H : Hp) (mu : List Addr) (a : Addr) : GO → Prop
  | .lst xs => ∃ vs, H a = some (.lst vs) ∧ All2 (RelPV K H mu) vs xs
  | .ins C fs => ∃ dx vs, H a = some (.ins C dx vs) ∧ All2 (fun (p : Str × V) (q : Str × SV) => p.1 = q.1 ∧ RelPV K H mu p.2 q.2) vs fs
structure RelH (K : PySem.W.Frag) (H : Hp) (mu : List Addr) (h : LH) : Prop where
  len : mu.length = h.length
  nd : mu.Nodup
  at_ : ∀ (n : Nat) (a : Addr) (o : GO), mu[n]? = some a → h[n]? = some o → RelGO K H mu a o
structure Ext (mu : List Addr) (H : Hp) (mu' : List Addr) (H' : Hp) : Prop where
  mono : Mono H H'
  keep : ∀ b u, H b = some u → b ∉ mu → H' b = some u
  more : ∃ nu, mu' = mu ++ nu ∧ ∀ a ∈ nu, H a = none
  live : ∀ b, H b ≠ none → H' b ≠ none
theorem Ext.refl (mu : List Addr) (H : Hp) : Ext mu H mu H := ⟨.refl H, fun _ _ h _ => h, ⟨[], by simp, by simp⟩, fun _ h => h⟩
theorem Ext.trans {mu mu1 mu2 : List Addr} {H H1 H2 : Hp} (a : Ext mu H mu1 H1) (b : Ext mu1 H1 mu2 H2) : Ext mu H mu2 H2 where
  mono := a.mono.trans b.mono
  keep := fun c u h hc => b.keep c u (a.keep c u h hc) fun hm => by
    obtain ⟨nu, e, hn⟩ := a.more
    rw [e] at hm
    rcases List.mem_append.mp hm with q | q
    · exact hc q
    · rw [hn c q] at h; cases h
  more := by
    obtain ⟨nu, e, hn⟩ := a.more
    obtain ⟨nu2, e2, hn2⟩ := b.more
    refine ⟨nu ++ nu2, by rw [e2, e, List.append_assoc], fun c hc => ?_⟩
    rcases List.mem_append.mp hc with q | q
    · exact hn c q
    · cases h : H c with
      | none => rfl
      | some u => exact absurd (hn2 c q) (a.live c (by rw [h]; simp))
  live := fun c h => b.live c (a.live c h)
theorem Ext.mem {mu mu' : List Addr} {H H' : Hp} (e : Ext mu H mu' H') {a : Addr} (h : a ∈ mu) : a ∈ mu' := by
  obtain ⟨nu, q, _⟩ := e.more
  rw [q]; exact List.mem_append_left _ h
theorem Ext.get {mu mu' : List Addr} {H H' : Hp} (e : Ext mu H mu' H') {n : Nat} {a : Addr} (h : mu[n]? = some a) : mu'[n]? = some a := by
  obtain ⟨nu, q, _⟩ := e.more
  rw [q, List.getElem?_append_left (List.getElem?_eq_some_iff.mp h).1]; exact h
theorem Ext.notin {mu mu' : List Addr} {H H' : Hp} (e : Ext mu H mu' H') {a : Addr} {u : HO} (h : H a = some u) (n : a ∉ mu) : a ∉ mu' := by
  obtain ⟨nu, q, hn⟩ := e.more
  rw [q]
  intro hm
  rcases List.mem_append.mp hm with z | z
  · exact n z
  · rw [hn a z] at h; cases h
theorem RelSV.ext {K : PySem.W.Frag} {mu mu' : List Addr} {H H' : Hp} (e : Ext mu H mu' H') {v : V} : ∀ {s : SV}, RelSV K H mu v s → RelSV K H' mu' v s
  | .val _, h => h.mono e.mono
  | .ref _, ⟨a, h, q⟩ => ⟨a, e.get h, q⟩
  | .own _, ⟨a, xs, q, h, n, r⟩ => ⟨a, xs, q, e.keep a _ h n, e.notin h n, r.mono e.mono⟩
  | .exc _, h => h
  | .scr _, ⟨a, q, h⟩ => ⟨a, q, e.mono.fzk h⟩
theorem All2.imp {α β : Type} {R S : α → β → Prop} (f : ∀ a b, R a b → S a b) : ∀ {as : List α} {bs : List β}, All2 R as bs → All2 S as bs
  | _, _, .nil => .nil
  | _, _, .cons h t => .cons (f _ _ h) (All2.imp f t)
theorem All2.length {α β : Type} {R : α → β → Prop} : ∀ {as : List α} {bs : List β}, All2 R as bs → as.length = bs.length
  | _, _, .nil => rfl
  | _, _, .cons _ t => congrArg (· + 1) (All2.length t)
theorem All2.get {α β : Type} {R : α → β → Prop} : ∀ {as : List α} {bs : List β} {i : Nat} {b : β}, All2 R as bs → bs[i]? = some b → ∃ a, as[i]? = some a ∧ R a b
  | _, _, i, _, .nil, e => by simp at e
  | _, _, 0, _, .cons h _, e => by simp at e; subst e; exact ⟨_, rfl, h⟩
  | _, _, i + 1, d, .cons _ t, e => by
    obtain ⟨v, h1, h2⟩ := All2.get (i := i) (b := d) t (by simpa using e)
    exact ⟨v, by simpa using h1, h2⟩
theorem All2.set {α β : Type} {R : α → β → Prop} {a : α} {b : β} (r : R a b) : ∀ {as : List α} {bs : List β} (i : Nat), All2 R as bs → All2 R (as.set i a) (bs.set i b)
  | _, _, _, .nil => .nil
  | _, _, 0, .cons _ t => .cons r t
  | _, _, i + 1, .cons q t => .cons q (All2.set r i t)
theorem All2.append {α β : Type} {R : α → β → Prop} : ∀ {as as' : List α} {bs bs' : List β}, All2 R as bs → All2 R as' bs' → All2 R (as ++ as') (bs ++ bs')
  | _, _, _, _, .nil, h => h
  | _, _, _, _, .cons h t, q => .cons h (All2.append t q)

/-- the slots; pn: the pins of the context (a caught exception's object is among them) -/
structure RelS (K : PySem.W.Frag) (mg : Str → Option Value) (pn : List (Addr × Obj)) (H : Hp) (mu : List Addr) (st : L2.St) (ds : DS) : Prop where
  len : st.length = ds.length
  at_ : ∀ (i : Nat) (s : SV), ds[i]? = some (some s) → (∀ x, s ≠ SV.exc x) → ∃ v, st[i]? = some (some v) ∧ RelSV K H mu v s
  ex : ∀ (i : Nat) (x : XV), ds[i]? = some (some (SV.exc x)) → ∃ (e : Addr) (oe : Obj), st[i]? = some (some (V.ref e)) ∧ ((e, oe) ∈ pn ∧ ∃ us, oe.data = .fields us) ∧ mg x.cls = some oe.cls ∧
    ((oe.dict = none ∧ x.fs = []) ∨ ∃ d fs, (oe.dict = some d ∧ x.fs ≠ []) ∧ H d = some (.xd fs) ∧ d ∉ mu ∧ RpF K H fs x.fs)
theorem RpF.mono {K : PySem.W.Frag} {H H' : Hp} (m : Mono H H') {fs : List (Str × V)} {gs : List (Str × D)} (r : RpF K H fs gs) : RpF K H' fs gs := Paired.mapP r fun _ _ q => ⟨q.1, q.2.mono m⟩
theorem RelS.ext {K : PySem.W.Frag} {mg : Str → Option Value} {pn : List (Addr × Obj)} {mu mu' : List Addr} {H H' : Hp} {st : L2.St} {ds : DS} (r : RelS K mg pn H mu st ds) (e : Ext mu H mu' H') : RelS K mg pn H' mu' st ds where
  len := r.len
  at_ := fun i s h n => let ⟨v, h1, h2⟩ := r.at_ i s h n; ⟨v, h1, h2.ext e⟩
  ex := fun i x h => by
    obtain ⟨a, oe, h1, h2, h3, h4⟩ := r.ex i x h
    refine ⟨a, oe, h1, h2, h3, ?_⟩
    rcases h4 with h4 | ⟨d, fs, q1, q2, q3, q4⟩
    · exact .inl h4
    · exact .inr ⟨d, fs, q1, e.keep _ _ q2 q3, e.notin q2 q3, q4.mono e.mono⟩
theorem RelPV.ext {K : PySem.W.Frag} {mu mu' : List Addr} {H H' : Hp} (e : Ext mu H mu' H') {v : V} {s : SV} (h : RelPV K H mu v s) : RelPV K H' mu' v s := ⟨h.1, h.2.ext e⟩

/-! ### results -/
inductive Out (α : Type) where
  | ok (a : α) (h : LH)
  | exc (x : XV) (h : LH)
  | bad
def Out.bind {α β : Type} (o : Out α) (k : α → LH → Out β) : Out β := match o with
  | .ok a h => k a h
  | .exc x h => .exc x h
  | .bad => .bad
@[simp] theorem Out.bind_ok {α β : Type} (a : α) (h : LH) (k : α → LH → Out β) : (Out.ok a h).bind k = k a h := rfl
@[simp] theorem Out.bind_exc {α β : Type} (x : XV) (h : LH) (k : α → LH → Out β) : (Out.exc x h).bind k = .exc x h := rfl
@[simp] theorem Out.bind_bad {α β : Type} (k : α → LH → Out β) : (Out.bad).bind k = .bad := rfl
/-- o.bind that keeps the heap of the data -/
def Out.lift {α : Type} (o : Option α) (h : LH) : Out α := match o with
  | some a => .ok a h
  | none => .bad
@[simp] theorem Out.lift_some {α : Type} (a : α) (h : LH) : Out.lift (some a) h = .ok a h := rfl
@[simp] theorem Out.lift_none {α : Type} (h : LH) : Out.lift (none : Option α) h = .bad := rfl

/-- what follows from a result: R says how a value of type γ stands for the result (H: ahead, H' mu': behind) -/
def After {α γ : Type} (K : PySem.W.Frag) (mg : Str → Option Value) (W : Value → Option Addr → Hp → Prop) (R : Hp → List Addr → γ → α → Prop) (mu : List Addr) (H : Hp) (o : Out α) (Q : γ → Hp → Prop) : Prop := match o with
  | .ok a h' => ∀ v H' mu', Ext mu H mu' H' → RelH K H' mu' h' → R H' mu' v a → Q v H'
  | .exc x h' => ∀ c dd H' mu', Ext mu H mu' H' → RelH K H' mu' h' → RelX K mg H' c dd x → W c dd H'
  | .bad => False
theorem After.step {α β γ γ' : Type} {K : PySem.W.Frag} {mg : Str → Option Value} {W : Value → Option Addr → Hp → Prop} {R : Hp → List Addr → γ → α → Prop} {R' : Hp → List Addr → γ' → β → Prop} {mu : List Addr} {H : Hp} {o : Out α} {k : α → LH → Out β} {Q : γ' → Hp → Prop} {P : γ → Hp → Prop}
    (h : After K mg W R' mu H (o.bind k) Q)
    (f : ∀ a h1 v H1 mu1, o = .ok a h1 → Ext mu H mu1 H1 → RelH K H1 mu1 h1 → R H1 mu1 v a → After K mg W R' mu1 H1 (k a h1) Q → P v H1) : After K mg W R mu H o P := by
  cases o with
  | bad => exact h
  | exc x h' => exact h
  | ok a h1 =>
    intro v H1 mu1 e rh r
    refine f a h1 v H1 mu1 rfl e rh r ?_
    have h : After K mg W R' mu H (k a h1) Q := h
    cases q : k a h1 with
    | bad => rw [q] at h; exact h
    | exc x h2 =>
      rw [q] at h
      exact fun c dd H' mu' e2 rh2 rx => h c dd H' mu' (e.trans e2) rh2 rx
    | ok b h2 =>
      rw [q] at h
      exact fun v H' mu' e2 rh2 r2 => h v H' mu' (e.trans e2) rh2 r2
theorem After.imp {α γ : Type} {K : PySem.W.Frag} {mg : Str → Option Value} {W : Value → Option Addr → Hp → Prop} {R R' : Hp → List Addr → γ → α → Prop} {mu : List Addr} {H : Hp} {o : Out α} {Q Q' : γ → Hp → Prop} (h : After K mg W R mu H o Q)
    (f : ∀ v a H1 mu1 h1, o = .ok a h1 → Ext mu H mu1 H1 → RelH K H1 mu1 h1 → R' H1 mu1 v a → R H1 mu1 v a ∧ (Q v H1 → Q' v H1)) : After K mg W R' mu H o Q' := by
  cases o with
  | bad => exact h
  | exc x h' => exact h
  | ok a h1 =>
    intro v H1 mu1 e rh r
    obtain ⟨q1, q2⟩ := f v a H1 mu1 h1 rfl e rh r
    exact q2 (h v H1 mu1 e rh q1)
/-- an answer at once -/
theorem After.here {α γ : Type} {K : PySem.W.Frag} {mg : Str → Option Value} {W : Value → Option Addr → Hp → Prop} {R : Hp → List Addr → γ → α → Prop} {mu : List Addr} {H : Hp} {a : α} {h : LH} {Q : γ → Hp → Prop} (q : After K mg W R mu H (.ok a h) Q) (rh : RelH K H mu h) {v : γ} (r : R H mu v a) : Q v H :=
  q v H mu (.refl _ _) rh r
/-- at a new object -/
theorem After.new {α γ : Type} {K : PySem.W.Frag} {mg : Str → Option Value} {W : Value → Option Addr → Hp → Prop} {R : Hp → List Addr → γ → α → Prop} {mu : List Addr} {H H' : Hp} {a : α} {h : LH} {Q : γ → Hp → Prop} (q : After K mg W R mu H (.ok a h) Q) (e : Ext mu H mu H') (rh : RelH K H' mu h) {v : γ} (r : R H' mu v a) : Q v H' :=
  q v H' mu e rh r

section
variable {X : Cx}
/-- readings of expressions, tests, lists of arguments from functions over the slots and the logical heap -/
def rSV (K : PySem.W.Frag) : Hp → List Addr → V → SV → Prop := fun H mu v s => RelSV K H mu v s
def LE (X : Cx) (W : WX) (f : DS → LH → Out SV) : TE := fun st H Q => ∃ ds mu h, RelS X.K X.mg X.pn H mu st ds ∧ RelH X.K H mu h ∧ After X.K X.mg (fun c dd H' => W c dd st H') (rSV X.K) mu H (f ds h) Q
def LT (X : Cx) (W : WX) (f : DS → LH → Out Bool) : TT := fun st H Q => ∃ ds mu h, RelS X.K X.mg X.pn H mu st ds ∧ RelH X.K H mu h ∧ After X.K X.mg (fun c dd H' => W c dd st H') (fun _ _ (v : Bool) b => v = b) mu H (f ds h) Q
def LA (X : Cx) (W : WX) (f : DS → LH → Out (List SV)) : TA := fun st H Q => ∃ ds mu h, RelS X.K X.mg X.pn H mu st ds ∧ RelH X.K H mu h ∧ After X.K X.mg (fun c dd H' => W c dd st H') (fun H' mu' vs ss => All2 (RelSV X.K H' mu') vs ss) mu H (f ds h) Q
/-- a list that nothing else knows; dn: free ahead -/
def LF (X : Cx) (W : WX) (f : DS → LH → Out (List D)) : TE := fun st H Q => ∃ ds mu h, RelS X.K X.mg X.pn H mu st ds ∧ RelH X.K H mu h ∧
  After X.K X.mg (fun c dd H' => W c dd st H') (fun H' mu' v l => ∃ a xs, v = V.ref a ∧ H a = none ∧ a ∉ mu' ∧ H' a = some (.lst xs) ∧ RpAll X.K H' xs l) mu H (f ds h) Q
structure EM (X : Cx) (W : WX) (e : Expr) (f : DS → LH → Out SV) : Prop where
  pe : PE X e (LE X W f)
structure TM (X : Cx) (W : WX) (e : Expr) (f : DS → LH → Out Bool) : Prop where
  pt : PT X e (LT X W f)
structure AM (X : Cx) (W : WX) (es : List Expr) (f : DS → LH → Out (List SV)) : Prop where
  pa : PA X es (LA X W f)
structure FM (X : Cx) (W : WX) (e : Expr) (f : DS → LH → Out (List D)) : Prop where
  pe : PE X e (LF X W f)
theorem PE.imp {e : Expr} {t t' : TE} (h : PE X e t) (i : ∀ st H Q, t' st H Q → t st H Q) : PE X e t' := ⟨fun pins s st H Q I q => h.run pins s st H Q I (i _ _ _ q)⟩
theorem PT.imp {e : Expr} {t t' : TT} (h : PT X e t) (i : ∀ st H Q, t' st H Q → t st H Q) : PT X e t' := ⟨fun pins s st H Q I q => h.run pins s st H Q I (i _ _ _ q)⟩
theorem PA.imp {e : List Expr} {t t' : TA} (h : PA X e t) (i : ∀ st H Q, t' st H Q → t st H Q) : PA X e t' := ⟨fun p pins s st H Q I q => h.run p pins s st H Q I (i _ _ _ q)⟩
theorem PS.imp {e : Stmt} {t t' : TS} (h : PS X e t) (i : ∀ E st H, t' E st H → t E st H) : PS X e t' := ⟨fun pins s st H E I q => h.run pins s st H E I (i _ _ _ q)⟩
theorem PSs.imp {e : List Stmt} {t t' : TS} (h : PSs X e t) (i : ∀ E st H, t' E st H → t E st H) : PSs X e t' := ⟨fun pins s st H E I q => h.run pins s st H E I (i _ _ _ q)⟩
theorem PI.imp {tg e : Expr} {t t' : TI} (h : PI X tg e t) (i : ∀ st H R, t' st H R → t st H R) : PI X tg e t' := ⟨fun pins s st H R I q => h.run pins s st H R I (i _ _ _ q)⟩
end
end U
/-! U2: freezing; operators, comparisons, subscripts, slices over data. -/
namespace U
open PySem PySem.Spec PyProof.Rows L2

/-! ### freezing -/
section
variable {X : Cx} {pins : List (Addr × Obj)} {st : L2.St} {H : Hp} {s : Shared} {a : Addr} {u : HO} {o : Obj}
theorem inv_frz (I : Inv X pins st H s) (h : H a = some u) (e : s.heap.get? a = some o) (n1 : ∀ xs, u ≠ .tup xs) (n2 : ∀ o' u', u ≠ .frz o' u') (n3 : ∀ x, u ≠ .own x) (n4 : ∀ ps, u ≠ .tbl ps) : Inv X pins st (upd H a (.frz o u)) s := by
  have tupk : ∀ b xs, H b = some (.tup xs) → upd H a (.frz o u) b = some (.tup xs) := fun b xs q => by
    rw [upd_ne (fun z => by subst z; rw [h] at q; exact n1 xs (Option.some.inj q))]; exact q
  have frzk : ∀ b o' xs, H b = some (.frz o' xs) → upd H a (.frz o u) b = some (.frz o' xs) := fun b o' xs q => by
    rw [upd_ne (fun z => by subst z; rw [h] at q; exact n2 o' xs (Option.some.inj q))]; exact q
  have ownk : ∀ b x, H b = some (.own x) → upd H a (.frz o u) b = some (.own x) := fun b x q => by
    rw [upd_ne (fun z => by subst z; rw [h] at q; exact n3 x (Option.some.inj q))]; exact q
  have hk : HOk X.prog X.w (upd H a (.frz o u)) s.heap := fun b v q => by
    by_cases hb : b = a
    · subst hb
      rw [upd_same] at q
      cases q
      exact ⟨e, (I.hok b u h).stay (fun _ _ _ z => z) (fun c z => ownk c b z) tupk⟩
    · rw [upd_ne hb] at q
      exact (I.hok b v q).stay (fun _ _ _ z => z) (fun c z => ownk c b z) tupk
  have un : Un X.fs [] H (upd H a (.frz o u)) s.heap s.heap := by
    refine ⟨fun b ob q _ _ _ => q, fun b ob q _ _ _ => ⟨ob.slots, q⟩, fun b ob q n _ => ?_, fun b ob q _ => ⟨ob, q⟩, tupk, frzk, fun b ps q => ⟨#[], ?_⟩⟩
    · rw [upd_ne (fun z => by subst z; rw [h] at n; cases n)]; exact n
    · rw [upd_ne (fun z => by subst z; rw [h] at q; exact n4 ps (Option.some.inj q)), q]; simp
  exact I.un (h' := s.heap) (t' := s.toks) un hk
/-- Q at the frozen list -/
def Fz (Q : VK) : VK := fun z H1 => ∃ a xs, z = V.ref a ∧ H1 a = some (.lst xs) ∧ ∀ o, Q z (upd H1 a (.frz o (.lst xs)))
theorem inv_frzL {xs : List V} (I : Inv X pins st H s) (h : H a = some (.lst xs)) : ∃ o, Inv X pins st (upd H a (.frz o (.lst xs))) s := by
  obtain ⟨_, its, n, _, e⟩ := I.hok a _ h
  exact ⟨_, inv_frz I h e (fun _ z => by cases z) (fun _ _ z => by cases z) (fun _ z => by cases z) (fun _ z => by cases z)⟩
theorem ep_fz {Q : VK} {v : Value} (h : EP X pins st (Fz Q) v s) : EP X pins st Q v s := by
  obtain ⟨z, H1, I, r, a, xs, rfl, e, q⟩ := h
  obtain ⟨o, J⟩ := inv_frzL I e
  exact ⟨_, _, J, r, q o⟩
end
theorem pe_fz {X : Cx} {e : Expr} {t : TE} (h : PE X e t) : PE X e (fun st H Q => t st H (Fz Q)) := ⟨fun pins s st H Q I q => thn (h.run pins s st H _ I q) fun _ _ z => ep_fz z⟩
theorem op_fz {X : Cx} {f : Value → Value → Sem Value} {r : R2} (h : OpR X f r) : OpR X f (fun x y H Q => r x y H (Fz Q)) := fun pins s st H x y v u Q I r1 r2 q => thn (h pins s st H x y v u _ I r1 r2 q) fun _ _ z => ep_fz z
theorem upd_mono {H : Hp} {p : Addr} {o : HO} (n : H p = none) : Mono H (upd H p o) :=
  ⟨fun b xs h => by rw [upd_ne (ne_of_none h n)]; exact h, fun b o' u h => by rw [upd_ne (ne_of_none h n)]; exact h⟩
/-- a new address -/
theorem ext_new {mu : List Addr} {H : Hp} {p : Addr} {o : HO} (n : H p = none) : Ext mu H mu (upd H p o) :=
  ⟨upd_mono n, fun b u h _ => by rw [upd_ne (ne_of_none h n)]; exact h, ⟨[], by simp, by simp⟩, fun b h => by
    by_cases e : b = p
    · subst e; rw [upd_same]; simp
    · rw [upd_ne e]; exact h⟩
theorem ext_new2 {mu : List Addr} {H : Hp} {p : Addr} {o o' : HO} (n : H p = none) : Ext mu H mu (upd (upd H p o) p o') := by rw [upd_upd]; exact ext_new n
/-- the logical heap keeps while tracked things keep -/
theorem RelH.live {K : PySem.W.Frag} {H : Hp} {mu : List Addr} {h : LH} (r : RelH K H mu h) {a : Addr} (m : a ∈ mu) : ∃ u, H a = some u ∧ (∀ o v, u ≠ .frz o v) ∧ ∀ xs, u ≠ .tup xs := by
  obtain ⟨n, hn, e⟩ := List.mem_iff_getElem.mp m
  have hn' : n < h.length := by rw [← r.len]; exact hn
  have q := r.at_ n a h[n] (by rw [List.getElem?_eq_getElem hn, e]) (List.getElem?_eq_getElem hn')
  cases z : h[n] with
  | lst xs =>
    rw [z] at q
    obtain ⟨vs, q, _⟩ := q
    exact ⟨_, q, (fun _ _ x => by cases x), fun _ x => by cases x⟩
  | ins C fs =>
    rw [z] at q
    obtain ⟨dx, vs, q, _⟩ := q
    exact ⟨_, q, (fun _ _ x => by cases x), fun _ x => by cases x⟩
theorem RelH.notin {K : PySem.W.Frag} {H : Hp} {mu : List Addr} {h : LH} (r : RelH K H mu h) {a : Addr} (n : H a = none) : a ∉ mu := fun m => by
  obtain ⟨u, e, _⟩ := r.live m
  rw [n] at e; cases e
theorem All2.map2 {α β : Type} {R S : α → β → Prop} {as : List α} {bs : List β} (h : All2 R as bs) (f : ∀ a b, R a b → S a b) : All2 S as bs := h.imp f
theorem RelGO.keep {K : PySem.W.Frag} {H H' : Hp} {mu mu' : List Addr} {a : Addr} {o : GO} (h : RelGO K H mu a o) (k : ∀ u, H a = some u → H' a = some u) (f : ∀ v s, RelPV K H mu v s → RelPV K H' mu' v s) : RelGO K H' mu' a o := by
  cases o with
  | lst xs => obtain ⟨vs, e, q⟩ := h; exact ⟨vs, k _ e, q.imp f⟩
  | ins C fs => obtain ⟨dx, vs, e, q⟩ := h; exact ⟨dx, vs, k _ e, q.imp fun _ _ z => ⟨z.1, f _ _ z.2⟩⟩
/-- all that was tracked is as it was -/
theorem RelH.same {K : PySem.W.Frag} {H H' : Hp} {mu : List Addr} {h : LH} (r : RelH K H mu h) (e : Ext mu H mu H') (k : ∀ a ∈ mu, ∀ u, H a = some u → H' a = some u) : RelH K H' mu h :=
  ⟨r.len, r.nd, fun n a o h1 h2 => (r.at_ n a o h1 h2).keep (fun u q => k a (List.mem_of_getElem? h1) u q) fun _ _ q => q.ext e⟩
theorem RelH.new {K : PySem.W.Frag} {H : Hp} {mu : List Addr} {h : LH} (r : RelH K H mu h) {p : Addr} {o : HO} (n : H p = none) : RelH K (upd H p o) mu h :=
  r.same (ext_new n) fun a _ u q => by rw [upd_ne (ne_of_none q n)]; exact q
theorem RelH.new2 {K : PySem.W.Frag} {H : Hp} {mu : List Addr} {h : LH} (r : RelH K H mu h) {p : Addr} {o o' : HO} (n : H p = none) : RelH K (upd (upd H p o) p o') mu h := by rw [upd_upd]; exact r.new n

/-! ### what a value holds -/
@[simp] def asInt : SV → Option Int
  | .val (.int i) => some i
  | _ => none
@[simp] def asStr : SV → Option Str
  | .val (.str i) => some i
  | _ => none
@[simp] def asBool : SV → Option Bool
  | .val (.bool i) => some i
  | _ => none
@[simp] def asTup : SV → Option (List D)
  | .val (.tuple i) => some i
  | _ => none
/-- the items of a list, whoever knows it -/
@[simp] def asLst : SV → Option (List D)
  | .val (.list ds) => some ds
  | .own ds => some ds
  | _ => none
theorem asInt_of : ∀ {x : SV} {i : Int}, asInt x = some i → x = .val (.int i) := by
  intro x i h
  cases x with
  | val d => cases d <;> first | (cases h; rfl) | cases h
  | _ => cases h
theorem asStr_of : ∀ {x : SV} {i : Str}, asStr x = some i → x = .val (.str i) := by
  intro x i h
  cases x with
  | val d => cases d <;> first | (cases h; rfl) | cases h
  | _ => cases h
theorem asBool_of : ∀ {x : SV} {i : Bool}, asBool x = some i → x = .val (.bool i) := by
  intro x i h
  cases x with
  | val d => cases d <;> first | (cases h; rfl) | cases h
  | _ => cases h
theorem asTup_of : ∀ {x : SV} {i : List D}, asTup x = some i → x = .val (.tuple i) := by
  intro x i h
  cases x with
  | val d => cases d <;> first | (cases h; rfl) | cases h
  | _ => cases h
section
variable {K : PySem.W.Frag} {H : Hp} {mu : List Addr} {v : V} {x : SV}
theorem asInt_rel {i : Int} (h : asInt x = some i) (r : RelSV K H mu v x) : v = .int i := by
  have e := asInt_of h
  subst e
  cases r
  rfl
theorem asStr_rel {i : Str} (h : asStr x = some i) (r : RelSV K H mu v x) : v = .str i := by
  have e := asStr_of h
  subst e
  cases r
  rfl
theorem asBool_rel {i : Bool} (h : asBool x = some i) (r : RelSV K H mu v x) : v = .bl i := by
  have e := asBool_of h
  subst e
  cases r
  rfl
theorem asTup_rel {i : List D} (h : asTup x = some i) (r : RelSV K H mu v x) : ∃ a xs, v = .ref a ∧ SqT K H a xs ∧ RpAll K H xs i := by
  have e := asTup_of h
  subst e
  cases r with
  | tup h q => exact ⟨_, _, rfl, h, q⟩
theorem asLst_rel {i : List D} (h : asLst x = some i) (r : RelSV K H mu v x) : ∃ a xs, v = .ref a ∧ Rd H a (.lst xs) ∧ RpAll K H xs i := by
  cases x with
  | val d =>
    cases d with
    | list ds =>
      cases h
      cases r with
      | lst f q => exact ⟨_, _, rfl, .inr f, q⟩
    | _ => cases h
  | own ds =>
    cases h
    obtain ⟨a, xs, rfl, h1, _, h2⟩ := r
    exact ⟨a, xs, rfl, .inl h1, h2⟩
  | _ => cases h
end
theorem rd_sq {K : PySem.W.Frag} {H : Hp} {a : Addr} {xs : List V} (h : Rd H a (.lst xs)) : SqL K H a xs := .inl h
/-- two options -/
def both {α β : Type} : Option α → Option β → Option (α × β)
  | some a, some b => some (a, b)
  | _, _ => none
@[simp] theorem both_ss {α β : Type} (a : α) (b : β) : both (some a) (some b) = some (a, b) := rfl
@[simp] theorem both_n {α β : Type} (b : Option β) : both (none : Option α) b = none := by cases b <;> rfl
@[simp] theorem both_n2 {α β : Type} (b : Option β) : both b (none : Option α) = none := by cases b <;> rfl
theorem both_of {α β : Type} {a : Option α} {b : Option β} {p : α × β} (h : both a b = some p) : a = some p.1 ∧ b = some p.2 := by
  cases a <;> cases b <;> first | (cases h; exact ⟨rfl, rfl⟩) | cases h
/-- the first that is there; bad where none is -/
def orBad {α β : Type} (o : Option α) (k : α → Out β) : Out β := match o with
  | some a => k a
  | none => .bad
@[simp] theorem orBad_some {α β : Type} (a : α) (k : α → Out β) : orBad (some a) k = k a := rfl
@[simp] theorem orBad_none {α β : Type} (k : α → Out β) : orBad none k = .bad := rfl
def orNext {α β : Type} (o : Option α) (k : α → Out β) (n : Out β) : Out β := match o with
  | some a => k a
  | none => n
@[simp] theorem orNext_some {α β : Type} (a : α) (k : α → Out β) (n : Out β) : orNext (some a) k n = k a := rfl
@[simp] theorem orNext_none {α β : Type} (k : α → Out β) (n : Out β) : orNext none k n = n := rfl
/-- an answer under a condition -/
def iff {α : Type} (c : Prop) [Decidable c] (o : Out α) : Out α := if c then o else .bad
theorem iff_pos {α : Type} {c : Prop} [Decidable c] (h : c) (o : Out α) : iff c o = o := if_pos h
theorem After.iff {α γ : Type} {K : PySem.W.Frag} {mg : Str → Option Value} {W : Value → Option Addr → Hp → Prop} {R : Hp → List Addr → γ → α → Prop} {mu : List Addr} {H : Hp} {c : Prop} [Decidable c] {o : Out α} {Q : γ → Hp → Prop} (q : After K mg W R mu H (iff c o) Q) : c ∧ After K mg W R mu H o Q := by
  unfold U.iff at q
  by_cases h : c
  · rw [if_pos h] at q; exact ⟨h, q⟩
  · rw [if_neg h] at q; exact q.elim
theorem After.orBad {α β γ : Type} {K : PySem.W.Frag} {mg : Str → Option Value} {W : Value → Option Addr → Hp → Prop} {R : Hp → List Addr → γ → β → Prop} {mu : List Addr} {H : Hp} {o : Option α} {k : α → Out β} {Q : γ → Hp → Prop} (q : After K mg W R mu H (orBad o k) Q) : ∃ a, o = some a ∧ After K mg W R mu H (k a) Q := by
  cases o with
  | none => exact q.elim
  | some a => exact ⟨a, rfl, q⟩
theorem After.orNext {α β γ : Type} {K : PySem.W.Frag} {mg : Str → Option Value} {W : Value → Option Addr → Hp → Prop} {R : Hp → List Addr → γ → β → Prop} {mu : List Addr} {H : Hp} {o : Option α} {k : α → Out β} {n : Out β} {Q : γ → Hp → Prop} (q : After K mg W R mu H (orNext o k n) Q) : (∃ a, o = some a ∧ After K mg W R mu H (k a) Q) ∨ After K mg W R mu H n Q := by
  cases o with
  | none => exact .inr q
  | some a => exact .inl ⟨a, rfl, q⟩

/-! ### an operation over data and its reading -/
section
variable {X : Cx} {W : WX} {a b c : Expr} {fa fb fc : DS → LH → Out SV} {pos : Pos}
abbrev WH := Value → Option Addr → Hp → Prop
/-- g is what the reading r asks -/
def OpG (X : Cx) (r : R2) (g : SV → SV → LH → Out SV) : Prop := ∀ (W : WH) (mu : List Addr) (h : LH) (H : Hp) (v u : V) (x y : SV) (Q : VK), RelH X.K H mu h → RelSV X.K H mu v x → RelSV X.K H mu u y →
  After X.K X.mg W (rSV X.K) mu H (g x y h) Q → r v u H Q
def OpD (X : Cx) (f : Value → Value → Sem Value) (g : SV → SV → LH → Out SV) : Prop := ∃ r, OpR X f r ∧ OpG X r g
theorem OpD.orElse {f : Value → Value → Sem Value} {g g' gg : SV → SV → LH → Out SV} (h : OpD X f g) (h' : OpD X f g') (e : ∀ x y l, gg x y l = g x y l ∨ gg x y l = g' x y l) : OpD X f gg := by
  obtain ⟨r, hr, hg⟩ := h
  obtain ⟨r', hr', hg'⟩ := h'
  refine ⟨_, OpR.or hr hr', fun W mu h H v u x y Q rh r1 r2 q => ?_⟩
  rcases e x y h with z | z
  · rw [z] at q; exact .inl (hg W mu h H v u x y Q rh r1 r2 q)
  · rw [z] at q; exact .inr (hg' W mu h H v u x y Q rh r1 r2 q)
/-- two operands, then g -/
def eBin (g : SV → SV → LH → Out SV) (fa fb : DS → LH → Out SV) : DS → LH → Out SV := fun ds h => (fa ds h).bind fun x h1 => (fb ds h1).bind fun y h2 => g x y h2
theorem LE.bin {r : R2} {g : SV → SV → LH → Out SV} (hg : OpG X r g) : ∀ st H Q, LE X W (eBin g fa fb) st H Q → tOp r (LE X W fa) (LE X W fb) st H Q := by
  rintro st H Q ⟨ds, mu, h, rs, rh, q⟩
  exact ⟨ds, mu, h, rs, rh, After.step q fun x h1 v H1 mu1 _ e1 rh1 r1 q1 => ⟨ds, mu1, h1, rs.ext e1, rh1, After.step q1 fun y h2 u H2 mu2 _ e2 rh2 r2 q2 => hg _ mu2 h2 H2 v u x y Q rh2 (r1.ext e2) r2 q2⟩⟩
theorem em_op {op : Operator} {g : SV → SV → LH → Out SV} (ho : OpD X (binaryOp op) g) (ha : EM X W a fa) (hb : EM X W b fb) : EM X W (.BinOp a op b pos) (eBin g fa fb) := by
  obtain ⟨r, hr, hg⟩ := ho
  exact ⟨PE.imp (pe_op hr ha.pe hb.pe) (LE.bin hg)⟩
theorem em_cmp {op : CmpOp} {g : SV → SV → LH → Out SV} (ho : OpD X (compareOp op) g) (ha : EM X W a fa) (hb : EM X W b fb) (hm : behindInMarks op b = false) : EM X W (.Compare a [op] [b] pos) (eBin g fa fb) := by
  obtain ⟨r, hr, hg⟩ := ho
  exact ⟨PE.imp (pe_cmpR hr ha.pe hb.pe hm) (LE.bin hg)⟩
/-- a value that is a bool, as a test -/
def tOf (f : DS → LH → Out SV) : DS → LH → Out Bool := fun ds h => (f ds h).bind fun x h1 => orBad (asBool x) fun b => .ok b h1
theorem LE.test : ∀ st H (Q : Bool → Hp → Prop), LT X W (tOf fa) st H Q → tTest (LE X W fa) st H Q := by
  rintro st H Q ⟨ds, mu, h, rs, rh, q⟩
  refine ⟨ds, mu, h, rs, rh, After.step q fun x h1 v H1 mu1 _ e1 rh1 r1 q1 => ?_⟩
  obtain ⟨b, e, q2⟩ := q1.orBad
  exact ⟨b, asBool_rel e r1, q2.here rh1 rfl⟩
theorem tm_cmp {op : CmpOp} {g : SV → SV → LH → Out SV} (ho : OpD X (compareOp op) g) (ha : EM X W a fa) (hb : EM X W b fb) (hm : behindInMarks op b = false) : TM X W (.Compare a [op] [b] pos) (tOf (eBin g fa fb)) := by
  obtain ⟨r, hr, hg⟩ := ho
  exact ⟨PT.imp (pt_cmpR hr ha.pe hb.pe hm) fun st H Q q => by
    obtain ⟨ds, mu, h, rs, rh, q⟩ := LE.test st H Q q
    exact LE.bin hg st H _ ⟨ds, mu, h, rs, rh, q⟩⟩

/-! ### arithmetic, concatenation -/
def gAdd (x y : SV) (h : LH) : Out SV :=
  orNext (both (asInt x) (asInt y)) (fun p => .ok (.val (.int (p.1 + p.2))) h) <|
  orNext (both (asStr x) (asStr y)) (fun p => iff (p.1.length + p.2.length ≤ sizeLine) (.ok (.val (.str (p.1 ++ p.2))) h)) <|
  orNext (both (asTup x) (asTup y)) (fun p => iff (p.1.length + p.2.length ≤ sizeLine) (.ok (.val (.tuple (p.1 ++ p.2))) h)) <|
  orBad (both (asLst x) (asLst y)) (fun p => iff (p.1.length + p.2.length ≤ sizeLine) (.ok (.val (.list (p.1 ++ p.2))) h))
def rCatR : R2 := fun x y H Q => ∃ l b xs zs, x = .ref l ∧ y = .ref b ∧ Rd H l (.lst xs) ∧ Rd H b (.lst zs) ∧ xs.length + zs.length ≤ sizeLine ∧ ∀ p, H p = none → Q (.ref p) (upd H p (.lst (xs ++ zs)))
theorem Inv.lstR {pins : List (Addr × Obj)} {st : L2.St} {H : Hp} {s : Shared} {l : Addr} {xs : List V} (I : Inv X pins st H s) (hH : Rd H l (.lst xs)) : xs.length ≤ sizeLine ∧ ∃ (its : List Value) (n : Nat), Vals xs its ∧ xs.length = its.length ∧ s.heap.get? l = some { cls := .type "list", data := .seq its.toArray n } := by
  obtain ⟨z, its, n, r, e⟩ := hH.ok I.hok
  exact ⟨z, its, n, r, r.length, e⟩
theorem op_catR : OpR X (binaryOp .Add) rCatR := by
  intro pins s st H x y v u Q I rx ry h
  obtain ⟨l, b, xs, zs, rfl, rfl, hH, hB, hz, q⟩ := h
  cases rx
  cases ry
  obtain ⟨z, its, n, r, hl, e⟩ := Inv.lstR I hH
  obtain ⟨z2, its2, n2, r2, hl2, e2⟩ := Inv.lstR I hB
  refine PySem.P.add_list e e2 ?_ (by rw [List.size_toArray, List.size_toArray]; omega)
  have ea : its.toArray ++ its2.toArray = (its ++ its2).toArray := by simp
  rw [ea]
  exact ⟨.ref _, _, I.lnew (t' := s.toks) (r.append r2) (by rw [List.length_append]; omega), rfl, q _ I.fresh⟩
theorem after_lst {K : PySem.W.Frag} {mg : Str → Option Value} {W : WH} {mu : List Addr} {h : LH} {H : Hp} {ds : List D} {xs : List V} {Q : VK} (rh : RelH K H mu h) (r : RpAll K H xs ds) (q : After K mg W (rSV K) mu H (.ok (.val (.list ds)) h) Q) : ∀ p, H p = none → Fz Q (.ref p) (upd H p (.lst xs)) := fun p hp =>
  ⟨p, xs, rfl, upd_same, fun o => q _ _ mu (ext_new2 hp) (rh.new2 hp) (.lst ⟨o, upd_same⟩ (r.mono (by rw [upd_upd]; exact upd_mono hp)))⟩
theorem after_tup {K : PySem.W.Frag} {mg : Str → Option Value} {W : WH} {mu : List Addr} {h : LH} {H : Hp} {ds : List D} {xs : List V} {Q : VK} (rh : RelH K H mu h) (r : RpAll K H xs ds) (q : After K mg W (rSV K) mu H (.ok (.val (.tuple ds)) h) Q) : ∀ p, H p = none → Q (.ref p) (upd H p (.tup xs)) := fun p hp =>
  q _ _ mu (ext_new hp) (rh.new hp) (.tup (.of upd_same) (r.mono (upd_mono hp)))
theorem od_add : OpD X (binaryOp .Add) gAdd := by
  refine ⟨_, OpR.or op_add (OpR.or op_add_str (OpR.or op_catA (op_fz op_catR))), fun W mu h H v u x y Q rh r1 r2 q => ?_⟩
  rcases q.orNext with ⟨p, e, q⟩ | q
  · obtain ⟨e1, e2⟩ := both_of e
    exact .inl ⟨_, _, asInt_rel e1 r1, asInt_rel e2 r2, q.here rh (.int _)⟩
  rcases q.orNext with ⟨p, e, q⟩ | q
  · obtain ⟨e1, e2⟩ := both_of e
    obtain ⟨hz, q⟩ := q.iff
    exact .inr (.inl ⟨_, _, asStr_rel e1 r1, asStr_rel e2 r2, hz, q.here rh (.str _)⟩)
  rcases q.orNext with ⟨p, e, q⟩ | q
  · obtain ⟨e1, e2⟩ := both_of e
    obtain ⟨hz, q⟩ := q.iff
    obtain ⟨a, xs, rfl, h1, q1⟩ := asTup_rel e1 r1
    obtain ⟨b, ys, rfl, h2, q2⟩ := asTup_rel e2 r2
    refine .inr (.inr (.inl ⟨a, b, xs, ys, rfl, rfl, h1, h2, by rw [q1.length, q2.length]; exact hz, fun z => ?_, fun _ z => ?_, fun _ _ => after_tup rh (q1.append q2) q⟩))
    · subst z
      refine q.here rh (.tup h2 ?_)
      have z : p.1 = [] := by cases h : p.1 with
        | nil => rfl
        | cons a b => rw [h] at q1; cases q1
      rw [z]; exact q2
    · subst z
      refine q.here rh (.tup h1 ?_)
      have z : p.2 = [] := by cases h : p.2 with
        | nil => rfl
        | cons a b => rw [h] at q2; cases q2
      rw [z, List.append_nil]; exact q1
  · obtain ⟨p, e, q⟩ := q.orBad
    obtain ⟨e1, e2⟩ := both_of e
    obtain ⟨hz, q⟩ := q.iff
    obtain ⟨l, xs, rfl, h1, q1⟩ := asLst_rel e1 r1
    obtain ⟨b, zs, rfl, h2, q2⟩ := asLst_rel e2 r2
    exact .inr (.inr (.inr ⟨l, b, xs, zs, rfl, rfl, h1, h2, by rw [q1.length, q2.length]; exact hz, after_lst rh (q1.append q2) q⟩))

/-! ### other arithmetic -/
/-- an operation on two ints under a condition -/
def gI (C : Int → Int → Bool) (g : Int → Int → Int) (x y : SV) (h : LH) : Out SV := orBad (both (asInt x) (asInt y)) fun p => iff (C p.1 p.2 = true) (.ok (.val (.int (g p.1 p.2))) h)
theorem od_int {f : Value → Value → Sem Value} {C : Int → Int → Prop} {C' : Int → Int → Bool} {g : Int → Int → Int} (o : OpR X f (rI C fun i j => .int (g i j))) (hC : ∀ i j, C' i j = true → C i j) : OpD X f (gI C' g) := by
  refine ⟨_, o, fun W mu h H v u x y Q rh r1 r2 q => ?_⟩
  obtain ⟨p, e, q⟩ := q.orBad
  obtain ⟨e1, e2⟩ := both_of e
  obtain ⟨hz, q⟩ := q.iff
  exact ⟨_, _, asInt_rel e1 r1, asInt_rel e2 r2, hC _ _ hz, q.here rh (.int _)⟩
def gSub := gI (fun _ _ => true) fun i j => i - j
theorem od_sub : OpD X (binaryOp .Sub) gSub := od_int (C := fun _ _ => True) (opI fun _ _ _ _ _ _ _ _ q => sub_int q) fun _ _ _ => trivial
def gDiv := gI (fun _ j => decide (0 < j) && decide (j < 1073741824)) fun i j => i / j
theorem od_div : OpD X (binaryOp .FloorDiv) gDiv := od_int op_fdiv fun _ _ h => by
  rw [Bool.and_eq_true] at h
  exact ⟨of_decide_eq_true h.1, of_decide_eq_true h.2⟩
def gMod := gI (fun _ j => decide (0 < j)) fun i j => i % j
theorem od_mod : OpD X (binaryOp .Mod) gMod := od_int op_mod fun _ _ h => of_decide_eq_true h
def cPow (i j : Int) : Bool := decide (0 ≤ j) && decide (j ≤ 1000000) && decide (i.natAbs < 2 ^ 64)
def gPow := gI cPow fun i j => i ^ j.toNat
theorem od_pow : OpD X (binaryOp .Pow) gPow := od_int op_pow fun _ _ h => by
  unfold cPow at h
  rw [Bool.and_eq_true, Bool.and_eq_true] at h
  exact ⟨of_decide_eq_true h.1.1, of_decide_eq_true h.1.2, of_decide_eq_true h.2⟩
def small (i : Int) : Bool := decide (-(2 ^ 64) < i) && decide (i < 2 ^ 64)
/-- a product of ints, or a list some times -/
def gMul (x y : SV) (h : LH) : Out SV :=
  orNext (both (asInt x) (asInt y)) (fun p => iff ((small p.1 || small p.2) = true) (.ok (.val (.int (p.1 * p.2))) h)) <|
  orBad (both (asLst x) (asInt y)) (fun p => iff (0 ≤ p.2 ∧ p.2 < 2 ^ 63 ∧ p.1.length * p.2.toNat ≤ sizeLine) (.ok (.val (.list (List.replicate p.2.toNat p.1).flatten)) h))
def rRepR : R2 := fun x y H Q => ∃ l k xs, x = .ref l ∧ y = .int k ∧ Rd H l (.lst xs) ∧ -(2 ^ 63) ≤ k ∧ k < 2 ^ 63 ∧ xs.length * k.toNat ≤ sizeLine ∧
  ∀ p, H p = none → Q (.ref p) (upd H p (.lst (List.replicate k.toNat xs).flatten))
theorem op_repR : OpR X (binaryOp .Mult) rRepR := by
  intro pins s st H x y v u Q I rx ry h
  obtain ⟨l, k, xs, rfl, rfl, hH, h1, h2, hz, q⟩ := h
  cases rx
  obtain ⟨t, rfl⟩ := ry
  obtain ⟨z, its, n, r, hl, e⟩ := Inv.lstR I hH
  have hlen : its.toArray.size * k.toNat ≤ sizeLine := by rw [List.size_toArray, ← hl]; exact hz
  have hcap : ¬ its.toArray.size * k.toNat > (2 ^ 63 - 1) / 8 := by
    have : (sizeLine : Nat) ≤ (2 ^ 63 - 1) / 8 := by decide
    omega
  have hfit : ¬ (!Builtin.List.listFitsIndex k) = true := by
    rw [fitsIndex_both h1 h2]
    exact Bool.false_ne_true
  have hlong : ¬ Builtin.List.listTooLong (its.toArray.size * k.toNat) = true := by
    rw [notLongL hlen]
    exact Bool.false_ne_true
  have hnew : List.foldl (fun x1 x2 => x1 ++ x2) #[] (List.replicate (if its.toArray.isEmpty = true then 0 else k.toNat) its.toArray) = (List.replicate k.toNat its).flatten.toArray := by
    have f0 : ∀ m : Nat, List.foldl (fun x1 x2 => x1 ++ x2) #[] (List.replicate m its.toArray) = (List.replicate m its).flatten.toArray := fun m => by
      have := foldl_rep its m []
      rw [List.nil_append] at this
      exact this
    rw [f0]
    cases its with
    | nil => simp
    | cons a r' => rw [if_neg (by simp)]
  refine wpAny_binaryOp_repeat_ref (T := "list") (U := "int") (by decide) ⟨_, e, rfl⟩ (fun s' => typeIs_int s' k t) noFill_list_mul F.fills_int_mul F.slot_int_rmul repeat_list F.slot_int_index.lookup
    (call_meets F.slot_int_rmul (typeIs_int s k t) F.entry_int_rmul (F.args_int_rmul_2 _ _) (int___rmul___int_list k t l its.toArray n)
      ⟨e, rfl, ⟨_, e, rfl⟩, call_meets F.slot_list_mul ⟨_, e, rfl⟩ F.entry_list_mul (F.args_list_mul_2 _ _) (AutoListH.list___mul___list_int_3 l its.toArray n k t hfit hcap hlong) ⟨e, ?_⟩⟩)
  rw [hnew]
  exact ⟨.ref _, _, I.lnew (t' := s.toks) (r.rep k.toNat) (by rw [PyProof.Rows.lm_len_rep_flat, Nat.mul_comm]; exact hz), rfl, q _ I.fresh⟩
theorem od_mul : OpD X (binaryOp .Mult) gMul := by
  refine ⟨_, OpR.or op_mul (op_fz op_repR), fun W mu h H v u x y Q rh r1 r2 q => ?_⟩
  rcases q.orNext with ⟨p, e, q⟩ | q
  · obtain ⟨e1, e2⟩ := both_of e
    obtain ⟨hz, q⟩ := q.iff
    refine .inl ⟨_, _, asInt_rel e1 r1, asInt_rel e2 r2, ?_, q.here rh (.int _)⟩
    unfold small at hz
    rw [Bool.or_eq_true, Bool.and_eq_true, Bool.and_eq_true] at hz
    rcases hz with hz | hz
    · exact .inl ⟨of_decide_eq_true hz.1, of_decide_eq_true hz.2⟩
    · exact .inr ⟨of_decide_eq_true hz.1, of_decide_eq_true hz.2⟩
  · obtain ⟨p, e, q⟩ := q.orBad
    obtain ⟨e1, e2⟩ := both_of e
    obtain ⟨⟨z1, z2, z3⟩, q⟩ := q.iff
    obtain ⟨l, xs, rfl, h1, q1⟩ := asLst_rel e1 r1
    exact .inr ⟨l, _, xs, rfl, asInt_rel e2 r2, h1, by omega, z2, by rw [q1.length]; exact z3, after_lst rh (q1.rep _) q⟩

/-! ### comparisons -/
@[simp] def asD : SV → Option D
  | .val d => some d
  | .own ds => some (.list ds)
  | _ => none
theorem asD_dp {K : PySem.W.Frag} {H : Hp} {mu : List Addr} {v : V} {x : SV} {d : D} (h : asD x = some d) (r : RelSV K H mu v x) : Dp K H v d := by
  cases x with
  | val e => cases h; exact Rp.dp r
  | own ds =>
    cases h
    obtain ⟨a, xs, rfl, h1, _, h2⟩ := r
    exact .lst (.inl (.inl h1)) h2.dp
  | _ => cases h
/-- data that may be compared -/
def okD (d : D) : Bool := d.plain && decide (d.depth ≤ 100)
def okDs (ds : List D) : Bool := PyData.plainAll ds
theorem room_min {A : Around} {m n : Nat} (hu : A.units + 150 < cLine) (h : n ≤ 100) : A.units + min m n < cLine := by
  have := Nat.min_le_right m n
  omega
theorem room_min1 {A : Around} {m n : Nat} (hu : A.units + 150 < cLine) (h : n ≤ 100) : A.units + 1 + min m n < cLine := by
  have := Nat.min_le_right m n
  omega
theorem okD_of {d : D} (h : okD d = true) : d.plain = true ∧ d.depth ≤ 100 := by
  unfold okD at h
  rw [Bool.and_eq_true] at h
  exact ⟨h.1, of_decide_eq_true h.2⟩
/-- a comparison of data: C when it may be asked, g its answer -/
def gC (C : D → D → Bool) (g : D → D → Bool) (x y : SV) (h : LH) : Out SV := orBad (both (asD x) (asD y)) fun p => iff (C p.1 p.2 = true) (.ok (.val (.bool (g p.1 p.2))) h)
def rDat (K : PySem.W.Frag) (C : D → D → Bool) (g : D → D → Bool) : R2 := fun x y H Q => ∃ d e, Dp K H x d ∧ Dp K H y e ∧ C d e = true ∧ Q (.bl (g d e)) H
theorem od_dat {f : Value → Value → Sem Value} {C : D → D → Bool} {g : D → D → Bool} (o : OpR X f (rDat X.K C g)) : OpD X f (gC C g) := by
  refine ⟨_, o, fun W mu h H v u x y Q rh r1 r2 q => ?_⟩
  obtain ⟨p, e, q⟩ := q.orBad
  obtain ⟨e1, e2⟩ := both_of e
  obtain ⟨hz, q⟩ := q.iff
  exact ⟨_, _, asD_dp e1 r1, asD_dp e2 r2, hz, q.here rh (.bl _)⟩
theorem op_dat {f : Value → Value → Sem Value} {C : D → D → Bool} {g : D → D → Bool}
    (rule : ∀ (s : Shared) (a b : Value) (d e : D) (as bs : List Addr) (Q E : Value → Shared → Prop), Reads s.heap a d as → Reads s.heap b e bs → C d e = true → Q (.bool (g d e)) s → wpAny (model X.prog X.w) X.A (f a b) Q E s) : OpR X f (rDat X.K C g) := by
  intro pins s st H x y v u Q I rx ry h
  obtain ⟨d, e, hd, he, c, q⟩ := h
  obtain ⟨as, r1⟩ := Dp.reads I d x v hd rx
  obtain ⟨bs, r2⟩ := Dp.reads I e y u he ry
  exact rule s v u d e as bs _ _ r1 r2 c ⟨.bl _, H, I, rfl, q⟩
def cEq (d e : D) : Bool := d.plain && okD e
def gEq := gC cEq PyData.eqv
def gNe := gC cEq fun d e => !PyData.eqv d e
theorem cEq_of {d e : D} (h : cEq d e = true) : d.plain = true ∧ e.plain = true ∧ e.depth ≤ 100 := by
  unfold cEq at h
  rw [Bool.and_eq_true] at h
  exact ⟨h.1, okD_of h.2⟩
theorem od_eq (hu : X.A.units + 150 < cLine) : OpD X (compareOp .Eq) gEq := od_dat (op_dat fun s a b d e as bs Q E r1 r2 c q => by
  obtain ⟨c1, c2, c3⟩ := cEq_of c
  exact SeqAt.eq_plain r1 r2 c1 c2 (room_min hu c3) q)
theorem od_ne (hu : X.A.units + 150 < cLine) : OpD X (compareOp .NotEq) gNe := od_dat (op_dat fun s a b d e as bs Q E r1 r2 c q => by
  obtain ⟨c1, c2, c3⟩ := cEq_of c
  exact SeqAt.ne_plain r1 r2 c1 c2 (room_min hu c3) q)
@[simp] def notNone : D → Bool
  | .none => false
  | _ => true
theorem notNone_of {d : D} (h : notNone d = true) : d ≠ .none := fun e => by subst e; cases h
def cLt (d e : D) : Bool := PySem.W.alike d e && notNone d && decide (e.depth ≤ 100)
theorem cLt_of {d e : D} (h : cLt d e = true) : PySem.W.alike d e = true ∧ d ≠ .none ∧ e.depth ≤ 100 := by
  unfold cLt at h
  rw [Bool.and_eq_true, Bool.and_eq_true] at h
  exact ⟨h.1.1, notNone_of h.1.2, of_decide_eq_true h.2⟩
def gLt := gC cLt PySem.W.dataLt
def gGt := gC cLt fun d e => PySem.W.dataLt e d
def gLe := gC cLt fun d e => !PySem.W.dataLt e d
def gGe := gC cLt fun d e => !PySem.W.dataLt d e
theorem od_lt (hu : X.A.units + 150 < cLine) : OpD X (compareOp .Lt) gLt := od_dat (op_dat fun s a b d e as bs Q E r1 r2 c q => by
  obtain ⟨c1, c2, c3⟩ := cLt_of c
  exact PySem.W.lt_data r1 r2 c1 c2 (room_min hu c3) q)
theorem od_gt (hu : X.A.units + 150 < cLine) : OpD X (compareOp .Gt) gGt := od_dat (op_dat fun s a b d e as bs Q E r1 r2 c q => by
  obtain ⟨c1, c2, c3⟩ := cLt_of c
  exact PySem.W.gt_data r1 r2 c1 c2 (room_min hu c3) q)
theorem od_le (hu : X.A.units + 150 < cLine) : OpD X (compareOp .LtE) gLe := od_dat (op_dat fun s a b d e as bs Q E r1 r2 c q => by
  obtain ⟨c1, c2, c3⟩ := cLt_of c
  exact PySem.W.le_data r1 r2 c1 c2 (room_min hu c3) q)
theorem od_ge (hu : X.A.units + 150 < cLine) : OpD X (compareOp .GtE) gGe := od_dat (op_dat fun s a b d e as bs Q E r1 r2 c q => by
  obtain ⟨c1, c2, c3⟩ := cLt_of c
  exact PySem.W.ge_data r1 r2 c1 c2 (room_min hu c3) q)

/-! ### in, not in -/
@[simp] def asSeq : SV → Option (List D)
  | .val (.list ds) => some ds
  | .val (.tuple ds) => some ds
  | .own ds => some ds
  | _ => none
theorem asSeq_of {x : SV} {ds : List D} (h : asSeq x = some ds) : asLst x = some ds ∨ asTup x = some ds := by
  cases x with
  | val d => cases d <;> first | exact .inl h | exact .inr h | cases h
  | own ds => exact .inl h
  | _ => cases h
theorem asSeq_rel {K : PySem.W.Frag} {H : Hp} {mu : List Addr} {v : V} {x : SV} {i : List D} (h : asSeq x = some i) (r : RelSV K H mu v x) : ∃ a xs, v = .ref a ∧ (SqL K H a xs ∨ SqT K H a xs) ∧ RpAll K H xs i := by
  rcases asSeq_of h with h | h
  · obtain ⟨a, xs, e, q, z⟩ := asLst_rel h r
    exact ⟨a, xs, e, .inl (rd_sq q), z⟩
  · obtain ⟨a, xs, e, q, z⟩ := asTup_rel h r
    exact ⟨a, xs, e, .inr q, z⟩
def rInS (K : PySem.W.Frag) (neg : Bool) : R2 := fun x y H Q => ∃ d a xs ds, Dp K H x d ∧ y = .ref a ∧ (SqL K H a xs ∨ SqT K H a xs) ∧ DpAll K H xs ds ∧ PyData.plainAll ds = true ∧ okD d = true ∧ Q (.bl (neg ^^ ds.any fun z => PyData.eqv z d)) H
theorem op_inS (hu : X.A.units + 150 < cLine) : OpR X (compareOp .In) (rInS X.K false) := by
  intro pins s st H x y v u Q I rx ry h
  obtain ⟨d, a, xs, ds, hd, rfl, hs, he, c1, c2, q⟩ := h
  obtain ⟨c2, c3⟩ := okD_of c2
  obtain ⟨as, r1⟩ := Dp.reads I d x v hd rx
  rw [Bool.false_xor] at q
  rcases hs with hs | hs
  · obtain ⟨bs, r2⟩ := Dp.reads I (.list ds) _ u (.lst hs he) ry
    exact SeqAt.in_list_data r2 r1 c1 c2 (room_min1 hu c3) ⟨.bl _, H, I, rfl, q⟩
  · obtain ⟨bs, r2⟩ := Dp.reads I (.tuple ds) _ u (.tup hs he) ry
    exact SeqAt.in_tuple_data r2 r1 c1 c2 (room_min1 hu c3) ⟨.bl _, H, I, rfl, q⟩
theorem op_notInS (hu : X.A.units + 150 < cLine) : OpR X (compareOp .NotIn) (rInS X.K true) := by
  intro pins s st H x y v u Q I rx ry h
  obtain ⟨d, a, xs, ds, hd, rfl, hs, he, c1, c2, q⟩ := h
  obtain ⟨c2, c3⟩ := okD_of c2
  obtain ⟨as, r1⟩ := Dp.reads I d x v hd rx
  rw [Bool.true_xor] at q
  rcases hs with hs | hs
  · obtain ⟨bs, r2⟩ := Dp.reads I (.list ds) _ u (.lst hs he) ry
    exact SeqAt.notIn_list_data r2 r1 c1 c2 (room_min1 hu c3) ⟨.bl _, H, I, rfl, q⟩
  · obtain ⟨bs, r2⟩ := Dp.reads I (.tuple ds) _ u (.tup hs he) ry
    exact SeqAt.notIn_tuple_data r2 r1 c1 c2 (room_min1 hu c3) ⟨.bl _, H, I, rfl, q⟩
/-- a text of one sign -/
def sign1 (x : Str) : Option Nat := match x.cps.toList with
  | [c] => some c
  | _ => none
theorem sign1_of {x : Str} {c : Nat} (h : sign1 x = some c) : x = ⟨#[c]⟩ := by
  unfold sign1 at h
  split at h
  · rename_i d e
    cases h
    cases x
    rename_i a
    have : a = #[c] := by
      rw [← Array.toList_inj]
      exact e
    rw [this]
  · cases h
def inStr (x z : Str) : Bool := match sign1 x with
  | some c => decide (c ∈ z.cps.toList)
  | none => !(Builtin.Str.occurrences z x 0 z.length 1).isEmpty
def gIn (neg : Bool) (x y : SV) (h : LH) : Out SV :=
  orNext (both (asStr x) (asStr y)) (fun p => .ok (.val (.bool (neg ^^ inStr p.1 p.2))) h) <|
  orBad (both (asD x) (asSeq y)) (fun p => iff (PyData.plainAll p.2 = true ∧ okD p.1 = true) (.ok (.val (.bool (neg ^^ p.2.any fun z => PyData.eqv z p.1))) h))
def rInSt (neg : Bool) : R2 := fun x y H Q => ∃ i j, x = .str i ∧ y = .str j ∧ Q (.bl (neg ^^ inStr i j)) H
theorem op_inSt : OpR X (compareOp .In) (rInSt false) := by
  intro pins s st H x y v u Q I rx ry h
  obtain ⟨i, j, rfl, rfl, q⟩ := h
  rw [Bool.false_xor] at q
  unfold inStr at q
  split at q
  · rename_i c e
    have e := sign1_of e
    subst e
    exact op_in_sign pins s st H _ _ v u Q I rx ry ⟨c, j, rfl, rfl, q⟩
  · exact op_in_str pins s st H _ _ v u Q I rx ry ⟨i, j, rfl, rfl, q⟩
theorem op_notInSt : OpR X (compareOp .NotIn) (rInSt true) := by
  intro pins s st H x y v u Q I rx ry h
  obtain ⟨i, j, rfl, rfl, q⟩ := h
  rw [Bool.true_xor] at q
  unfold inStr at q
  split at q
  · rename_i c e
    have e := sign1_of e
    subst e
    exact op_notIn_sign pins s st H _ _ v u Q I rx ry ⟨c, j, rfl, rfl, q⟩
  · exact op_notin_str pins s st H _ _ v u Q I rx ry ⟨i, j, rfl, rfl, q⟩
theorem DpAll.of {K : PySem.W.Frag} {H : Hp} {xs : List V} {ds : List D} (r : RpAll K H xs ds) : DpAll K H xs ds := r.dp
theorem og_in (neg : Bool) : OpG X (fun x y H Q => rInSt neg x y H Q ∨ rInS X.K neg x y H Q) (gIn neg) := fun W mu h H v u x y Q rh r1 r2 q => by
  rcases q.orNext with ⟨p, e, q⟩ | q
  · obtain ⟨e1, e2⟩ := both_of e
    exact .inl ⟨_, _, asStr_rel e1 r1, asStr_rel e2 r2, q.here rh (.bl _)⟩
  · obtain ⟨p, e, q⟩ := q.orBad
    obtain ⟨e1, e2⟩ := both_of e
    obtain ⟨⟨c1, c2⟩, q⟩ := q.iff
    obtain ⟨a, xs, ey, hs, z⟩ := asSeq_rel e2 r2
    exact .inr ⟨_, a, xs, _, asD_dp e1 r1, ey, hs, z.dp, c1, c2, q.here rh (.bl _)⟩
theorem od_in (hu : X.A.units + 150 < cLine) : OpD X (compareOp .In) (gIn false) := ⟨_, OpR.or op_inSt (op_inS hu), og_in false⟩
theorem od_notIn (hu : X.A.units + 150 < cLine) : OpD X (compareOp .NotIn) (gIn true) := ⟨_, OpR.or op_notInSt (op_notInS hu), og_in true⟩

/-! ### is None -/
def isN : SV → Option Bool
  | .val .none => some true
  | .val _ => some false
  | .ref _ => some false
  | .own _ => some false
  | .scr _ => some false
  | .exc _ => none
theorem isN_rel {K : PySem.W.Frag} {H : Hp} {mu : List Addr} {v : V} {x : SV} {b : Bool} (h : isN x = some b) (r : RelSV K H mu v x) : decide (v = V.non) = b := by
  cases x with
  | val d => cases d <;> (cases h; cases r <;> rfl)
  | ref n => cases h; obtain ⟨a, _, rfl⟩ := r; rfl
  | own ds => cases h; obtain ⟨a, _, rfl, _⟩ := r; rfl
  | scr ds => cases h; obtain ⟨a, rfl, _⟩ := r; rfl
  | exc x => cases h
def gIs (neg : Bool) (x y : SV) (h : LH) : Out SV := orBad (both (isN x) (isN y)) fun p => iff (p.2 = true) (.ok (.val (.bool (neg ^^ p.1))) h)
theorem isN_true {K : PySem.W.Frag} {H : Hp} {mu : List Addr} {v : V} {x : SV} (h : isN x = some true) (r : RelSV K H mu v x) : v = .non := of_decide_eq_true (isN_rel h r)
theorem od_is : OpD X (compareOp .Is) (gIs false) := ⟨_, op_isN, fun W mu h H v u x y Q rh r1 r2 q => by
  obtain ⟨p, e, q⟩ := q.orBad
  obtain ⟨e1, e2⟩ := both_of e
  obtain ⟨c, q⟩ := q.iff
  rw [c] at e2
  refine ⟨isN_true e2 r2, ?_⟩
  rw [isN_rel e1 r1, ← Bool.false_xor (x := p.1)]
  exact q.here rh (.bl _)⟩
theorem od_isNot : OpD X (compareOp .IsNot) (gIs true) := ⟨_, op_notN, fun W mu h H v u x y Q rh r1 r2 q => by
  obtain ⟨p, e, q⟩ := q.orBad
  obtain ⟨e1, e2⟩ := both_of e
  obtain ⟨c, q⟩ := q.iff
  rw [c] at e2
  refine ⟨isN_true e2 r2, ?_⟩
  rw [isN_rel e1 r1, ← Bool.true_xor (x := p.1)]
  exact q.here rh (.bl _)⟩

/-! ### minus -/
def eUn (g : SV → LH → Out SV) (fa : DS → LH → Out SV) : DS → LH → Out SV := fun ds h => (fa ds h).bind g
def gNeg (x : SV) (h : LH) : Out SV := orBad (asInt x) fun i => .ok (.val (.int (-i))) h
theorem em_neg (ha : EM X W a fa) : EM X W (.UnaryOp .USub a pos) (eUn gNeg fa) := ⟨PE.imp (pe_un un_neg ha.pe) fun st H Q ⟨ds, mu, h, rs, rh, q⟩ =>
  ⟨ds, mu, h, rs, rh, After.step q fun x h1 v H1 mu1 _ e1 rh1 r1 q1 => by
    obtain ⟨i, e, q2⟩ := q1.orBad
    exact ⟨i, asInt_rel e r1, q2.here rh1 (.int _)⟩⟩⟩

/-! ### items, slices -/
def gIx (x y : SV) (h : LH) : Out SV :=
  orNext (both (asStr x) (asInt y)) (fun p => iff (p.1.length ≤ sizeLine) (orBad (atI p.1.cps.toList p.2) fun c => .ok (.val (.str ⟨#[c]⟩)) h)) <|
  orBad (both (asSeq x) (asInt y)) (fun p => orBad (atI p.1 p.2) fun d => .ok (.val d) h)
theorem atI_rel {K : PySem.W.Frag} {H : Hp} {vs : List V} {ds : List D} {i : Int} {d : D} (r : RpAll K H vs ds) (h : atI ds i = some d) : ∃ v, atI vs i = some v ∧ Rp K H v d := by
  unfold atI at h ⊢
  rw [r.length]
  cases e : ixN ds.length i with
  | none => rw [e] at h; cases h
  | some j =>
    rw [e] at h
    exact r.get h
theorem em_ix (ha : EM X W a fa) (hb : EM X W b fb) (hs : PlainIx b) : EM X W (.Subscript a b pos) (eBin gIx fa fb) := by
  refine ⟨PE.imp (pe_ix ix_seq ha.pe hb.pe hs) (LE.bin fun W mu h H v u x y Q rh r1 r2 q => ?_)⟩
  rcases q.orNext with ⟨p, e, q⟩ | q
  · obtain ⟨e1, e2⟩ := both_of e
    obtain ⟨hz, q⟩ := q.iff
    obtain ⟨c, ec, q⟩ := q.orBad
    exact .inr (.inr ⟨_, _, c, asStr_rel e1 r1, asInt_rel e2 r2, hz, ec, q.here rh (.str _)⟩)
  · obtain ⟨p, e, q⟩ := q.orBad
    obtain ⟨e1, e2⟩ := both_of e
    obtain ⟨d, ed, q⟩ := q.orBad
    obtain ⟨a, xs, ex, hs, z⟩ := asSeq_rel e1 r1
    obtain ⟨v', ev, rv⟩ := atI_rel z ed
    rcases hs with hs | hs
    · exact .inl ⟨a, xs, _, v', ex, asInt_rel e2 r2, hs, ev, q.here rh rv⟩
    · exact .inr (.inl ⟨a, xs, _, v', ex, asInt_rel e2 r2, hs, ev, q.here rh rv⟩)
/-- a part of a slice -/
structure OM (X : Cx) (W : WX) (e : Option Expr) (f : DS → LH → Out (Option Int)) : Prop where
  po : PO X e fun st H Q => ∃ ds mu h, RelS X.K X.mg X.pn H mu st ds ∧ RelH X.K H mu h ∧ After X.K X.mg (fun c dd H' => W c dd st H') (fun _ _ (v : Option Int) b => v = b) mu H (f ds h) Q
theorem PO.imp {e : Option Expr} {t t' : TO} (h : PO X e t) (i : ∀ st H Q, t' st H Q → t st H Q) : PO X e t' := ⟨fun pins s st H Q I q => h.run pins s st H Q I (i _ _ _ q)⟩
def oNone : DS → LH → Out (Option Int) := fun _ h => .ok none h
def oSome (fa : DS → LH → Out SV) : DS → LH → Out (Option Int) := fun ds h => (fa ds h).bind fun x h1 => orBad (asInt x) fun i => .ok (some i) h1
theorem om_none : OM X W none oNone := ⟨PO.imp po_none fun st H Q ⟨ds, mu, h, rs, rh, q⟩ => q.here rh rfl⟩
theorem om_some (ha : EM X W a fa) : OM X W (some a) (oSome fa) := ⟨PO.imp (po_some ha.pe) fun st H Q ⟨ds, mu, h, rs, rh, q⟩ =>
  ⟨ds, mu, h, rs, rh, After.step q fun x h1 v H1 mu1 _ e1 rh1 r1 q1 => by
    obtain ⟨i, e, q2⟩ := q1.orBad
    exact ⟨i, asInt_rel e r1, q2.here rh1 rfl⟩⟩⟩
def cutD (xs : List D) (lo hi : Option Int) : List D := (xs.drop (HT.sIx xs.length 0 lo)).take (HT.sIx xs.length xs.length hi - HT.sIx xs.length 0 lo)
theorem cut_rel {K : PySem.W.Frag} {H : Hp} {vs : List V} {ds : List D} (r : RpAll K H vs ds) (lo hi : Option Int) : RpAll K H (cutV vs lo hi) (cutD ds lo hi) := by
  unfold cutV cutD
  rw [r.length]
  exact (r.drop _).take _
theorem cut_whole {K : PySem.W.Frag} {H : Hp} {vs : List V} {ds : List D} (r : RpAll K H vs ds) {lo hi : Option Int} (h : HT.sIx vs.length 0 lo = 0 ∧ HT.sIx vs.length vs.length hi = vs.length) : cutD ds lo hi = ds := by
  unfold cutD
  rw [← r.length, h.1, h.2, r.length]
  simp
def gSl (x : SV) (lo hi : Option Int) (h : LH) : Out SV :=
  orNext (asStr x) (fun z => iff (z.length ≤ sizeLine) (.ok (.val (.str (cutS z lo hi))) h)) <|
  orNext (asTup x) (fun xs => .ok (.val (.tuple (cutD xs lo hi))) h) <|
  orBad (asLst x) (fun xs => .ok (.val (.list (cutD xs lo hi))) h)
def eSl (fa : DS → LH → Out SV) (fl fu : DS → LH → Out (Option Int)) : DS → LH → Out SV := fun ds h => (fa ds h).bind fun x h1 => (fl ds h1).bind fun lo h2 => (fu ds h2).bind fun hi h3 => gSl x lo hi h3
theorem sl_fz {r : V → Option Int → Option Int → Hp → VK → Prop} (h : SlR X r) : SlR X (fun x lo hi H Q => r x lo hi H (Fz Q)) := fun pins s st H x v vl vu lo hi sl Q I rx hs pl pu q => by
  obtain ⟨T, id, h1, h2, h3⟩ := h pins s st H x v vl vu lo hi sl _ I rx hs pl pu q
  exact ⟨T, id, h1, h2, thn h3 fun _ _ z => ep_fz z⟩
theorem em_sl {lo hi : Option Expr} {fl fu : DS → LH → Out (Option Int)} {p2 : Pos} (ha : EM X W a fa) (hl : OM X W lo fl) (hh : OM X W hi fu) : EM X W (.Subscript a (.Slice lo hi none p2) pos) (eSl fa fl fu) := by
  refine ⟨PE.imp (pe_slice (SlR.or sl_str (SlR.or sl_tupA (sl_fz sl_list))) ha.pe hl.po hh.po) ?_⟩
  rintro st H Q ⟨ds, mu, h, rs, rh, q⟩
  refine ⟨ds, mu, h, rs, rh, After.step q fun x h1 v H1 mu1 _ e1 rh1 r1 q1 => ?_⟩
  refine ⟨ds, mu1, h1, rs.ext e1, rh1, After.step q1 fun l h2 l' H2 mu2 _ e2 rh2 r2 q2 => ?_⟩
  refine ⟨ds, mu2, h2, (rs.ext e1).ext e2, rh2, After.step q2 fun u h3 u' H3 mu3 _ e3 rh3 r3 q3 => ?_⟩
  subst r2 r3
  have r1 := (r1.ext e2).ext e3
  rcases q3.orNext with ⟨z, e, q⟩ | q
  · obtain ⟨hz, q⟩ := q.iff
    exact .inl ⟨z, asStr_rel e r1, hz, q.here rh3 (.str _)⟩
  rcases q.orNext with ⟨z, e, q⟩ | q
  · obtain ⟨a, xs, rfl, hs, rr⟩ := asTup_rel e r1
    refine .inr (.inl ⟨a, xs, rfl, hs, fun w => q.here rh3 (.tup hs ?_), fun _ => after_tup rh3 (cut_rel rr _ _) q⟩)
    rw [cut_whole rr w]; exact rr
  · obtain ⟨z, e, q⟩ := q.orBad
    obtain ⟨a, xs, rfl, hs, rr⟩ := asLst_rel e r1
    exact .inr (.inr ⟨a, xs, rfl, rd_sq hs, after_lst rh3 (cut_rel rr _ _) q⟩)
end
end U
/-! U3: names, constants, displays, tests, calls of built-ins and methods. -/
namespace U
open PySem PySem.Spec PyProof.Rows L2
section
variable {X : Cx} {W : WX} {a b c e : Expr} {fa fb fc f : DS → LH → Out SV} {pos p : Pos} {x : Str}

/-! ### names and constants -/
/-- what a slot holds (no caught exception) -/
def slot (ds : DS) (i : Nat) : Option SV := match ds[i]? with
  | some (some (.exc _)) => none
  | some (some s) => some s
  | _ => none
theorem slot_of {ds : DS} {i : Nat} {s : SV} (h : slot ds i = some s) : ds[i]? = some (some s) ∧ ∀ x, s ≠ .exc x := by
  unfold slot at h
  split at h
  · cases h
  · rename_i s' n e
    cases h
    exact ⟨e, fun x z => n x z⟩
  · cases h
def eVar (i : Nat) : DS → LH → Out SV := fun ds h => orBad (slot ds i) fun s => .ok s h
theorem LE.var {i : Nat} : ∀ st H Q, LE X W (eVar i) st H Q → tVar i st H Q := by
  rintro st H Q ⟨ds, mu, h, rs, rh, q⟩
  obtain ⟨s, e, q⟩ := q.orBad
  obtain ⟨e, n⟩ := slot_of e
  obtain ⟨v, ev, r⟩ := rs.at_ i s e n
  exact ⟨v, ev, q.here rh r⟩
theorem em_var (i : Nat) (hN : X.N[i]? = some x) (hv : Vis X.env.scope x) (hd : (x == ("__debug__" : Str)) = false := by decide) (hcd : (x == ("__classdict__" : Str)) = false := by decide) : EM X W (.Name x pos) (eVar i) :=
  ⟨PE.imp (pe_var hN hv hd hcd) LE.var⟩
/-- data at once -/
def eC (d : D) : DS → LH → Out SV := fun _ h => .ok (.val d) h
def Sca (v : V) (d : D) : Prop := ∀ (K : PySem.W.Frag) (H : Hp), Rp K H v d
theorem LE.const {v : V} {d : D} (r : Sca v d) : ∀ st H Q, LE X W (eC d) st H Q → tC v st H Q := fun st H Q ⟨ds, mu, h, rs, rh, q⟩ => q.here rh (r _ _)
theorem em_int {i j} : EM X W (.Constant (.int i) j pos) (eC (.int i)) := ⟨PE.imp pe_int (LE.const fun _ _ => .int i)⟩
theorem em_bool {i j} : EM X W (.Constant (.bool i) j pos) (eC (.bool i)) := ⟨PE.imp pe_bl (LE.const fun _ _ => .bl i)⟩
theorem em_none {j} : EM X W (.Constant .none j pos) (eC .none) := ⟨PE.imp pe_non (LE.const fun _ _ => .non)⟩
theorem em_str {i j} : EM X W (.Constant (.str i) j pos) (eC (.str i)) := ⟨PE.imp pe_str (LE.const fun _ _ => .str i)⟩
/-- a constant of the module -/
theorem em_gint {i : Int} {t : Tok} (hg : Gl X x) (hm : X.mg x = some (.int i t)) (hd : (x == ("__debug__" : Str)) = false := by decide) : EM X W (.Name x pos) (eC (.int i)) := ⟨PE.imp (pe_glob (v := .int i) hg hm ⟨t, rfl⟩ hd) (LE.const fun _ _ => .int i)⟩
theorem em_gstr {i : Str} {t : Tok} (hg : Gl X x) (hm : X.mg x = some (.str i t)) (hd : (x == ("__debug__" : Str)) = false := by decide) : EM X W (.Name x pos) (eC (.str i)) := ⟨PE.imp (pe_glob (v := .str i) hg hm ⟨t, rfl⟩ hd) (LE.const fun _ _ => .str i)⟩

/-! ### lists of arguments, displays -/
variable {es : List Expr} {fs : DS → LH → Out (List SV)}
def aNil : DS → LH → Out (List SV) := fun _ h => .ok [] h
def aCons (fa : DS → LH → Out SV) (fs : DS → LH → Out (List SV)) : DS → LH → Out (List SV) := fun ds h => (fa ds h).bind fun x h1 => (fs ds h1).bind fun xs h2 => .ok (x :: xs) h2
theorem am_nil : AM X W [] aNil := ⟨PA.imp pa_nil fun st H Q ⟨ds, mu, h, rs, rh, q⟩ => q.here rh .nil⟩
theorem am_cons (ha : EM X W a fa) (hs : AM X W es fs) (hst : starEach (a :: es) X.env = (false, eval a X.env) :: starEach es X.env := by rfl) : AM X W (a :: es) (aCons fa fs) :=
  ⟨PA.imp (pa_cons ha.pe hs.pa hst) fun st H Q ⟨ds, mu, h, rs, rh, q⟩ => ⟨ds, mu, h, rs, rh, After.step q fun x h1 v H1 mu1 _ e1 rh1 r1 q1 =>
    ⟨ds, mu1, h1, rs.ext e1, rh1, After.step q1 fun xs h2 vs H2 mu2 _ e2 rh2 r2 q2 => q2.here rh2 (.cons (r1.ext e2) r2)⟩⟩⟩
/-- data of each -/
@[simp] def asVal : SV → Option D
  | .val d => some d
  | _ => none
@[simp] def asVals : List SV → Option (List D)
  | [] => some []
  | x :: xs => match asVal x, asVals xs with
    | some d, some ds => some (d :: ds)
    | _, _ => none
theorem asVal_of {x : SV} {d : D} (h : asVal x = some d) : x = .val d := by
  cases x <;> first | (cases h; rfl) | cases h
theorem asVals_rel {K : PySem.W.Frag} {H : Hp} {mu : List Addr} : ∀ {ss : List SV} {vs : List V} {ds : List D}, asVals ss = some ds → All2 (RelSV K H mu) vs ss → RpAll K H vs ds
  | [], _, _, h, r => by cases h; cases r; exact .nil
  | s :: ss, _, ds, h, r => by
    cases r with
    | cons r1 r2 =>
      cases e1 : asVal s with
      | none =>
        unfold asVals at h
        rw [e1] at h
        cases h
      | some d =>
        cases e2 : asVals ss with
        | none =>
          unfold asVals at h
          rw [e1, e2] at h
          cases h
        | some ds' =>
          unfold asVals at h
          rw [e1, e2] at h
          cases h
          have e := asVal_of e1
          subst e
          exact .cons r1 (asVals_rel e2 r2)
def gTup (xs : List SV) (h : LH) : Out SV := orBad (asVals xs) fun ds => iff (ds.length ≤ sizeLine) (.ok (.val (.tuple ds)) h)
def gLst (xs : List SV) (h : LH) : Out SV := orBad (asVals xs) fun ds => iff (ds.length ≤ sizeLine) (.ok (.val (.list ds)) h)
def eArgs (g : List SV → LH → Out SV) (fs : DS → LH → Out (List SV)) : DS → LH → Out SV := fun ds h => (fs ds h).bind g
theorem em_tup {k} (hs : AM X W es fs) : EM X W (.Tuple es k pos) (eArgs gTup fs) := ⟨PE.imp (pe_tup hs.pa) fun st H Q ⟨ds, mu, h, rs, rh, q⟩ => ⟨ds, mu, h, rs, rh, After.step q fun xs h1 vs H1 mu1 _ e1 rh1 r1 q1 => by
  obtain ⟨l, e, q2⟩ := q1.orBad
  obtain ⟨hz, q2⟩ := q2.iff
  have rr := asVals_rel e r1
  exact ⟨by rw [rr.length]; exact hz, after_tup rh1 rr q2⟩⟩⟩
theorem em_lst (hs : AM X W es fs) : EM X W (.List es pos) (eArgs gLst fs) := ⟨PE.imp (pe_fz (pe_lst hs.pa)) fun st H Q ⟨ds, mu, h, rs, rh, q⟩ => ⟨ds, mu, h, rs, rh, After.step q fun xs h1 vs H1 mu1 _ e1 rh1 r1 q1 => by
  obtain ⟨l, e, q2⟩ := q1.orBad
  obtain ⟨hz, q2⟩ := q2.iff
  have rr := asVals_rel e r1
  exact ⟨by rw [rr.length]; exact hz, after_lst rh1 rr q2⟩⟩⟩
/-- .. a list of one's own -/
def eArgsF (fs : DS → LH → Out (List SV)) : DS → LH → Out (List D) := fun ds h => (fs ds h).bind fun xs h1 => orBad (asVals xs) fun ds => iff (ds.length ≤ sizeLine) (.ok ds h1)
theorem fm_lst (hs : AM X W es fs) : FM X W (.List es pos) (eArgsF fs) := ⟨PE.imp (pe_lst hs.pa) fun st H Q ⟨ds, mu, h, rs, rh, q⟩ => ⟨ds, mu, h, rs, rh, After.step q fun xs h1 vs H1 mu1 _ e1 rh1 r1 q1 => by
  obtain ⟨l, e, q2⟩ := q1.orBad
  obtain ⟨hz, q2⟩ := q2.iff
  have rr := asVals_rel e r1
  refine ⟨by rw [rr.length]; exact hz, fun p hp => q2 _ _ mu1 (ext_new hp) (rh1.new hp) ⟨p, vs, rfl, ?_, rh1.notin hp, upd_same, rr.mono (upd_mono hp)⟩⟩
  cases z : H p with
  | none => rfl
  | some u => exact absurd hp (e1.live p (by rw [z]; simp))⟩⟩
/-- the same, frozen at once -/
def eFz (f : DS → LH → Out (List D)) : DS → LH → Out SV := fun ds h => (f ds h).bind fun l h1 => .ok (.val (.list l)) h1
theorem RelPV.mono {K : PySem.W.Frag} {H H' : Hp} {mu : List Addr} (m : Mono H H') {v : V} : ∀ {s : SV}, RelPV K H mu v s → RelPV K H' mu v s
  | .val _, ⟨p, r⟩ => ⟨p, r.mono m⟩
  | .ref _, ⟨p, r⟩ => ⟨p, r⟩
  | .own _, ⟨p, _⟩ => p.elim
  | .exc _, ⟨p, _⟩ => p.elim
  | .scr _, ⟨p, _⟩ => p.elim
theorem mono_frz {H : Hp} {p : Addr} {o : Obj} {xs : List V} (e : H p = some (.lst xs)) : Mono H (upd H p (.frz o (.lst xs))) :=
  ⟨fun b ys q => by rw [upd_ne (ne_of q e (by intro z; cases z))]; exact q, fun b o' u q => by rw [upd_ne (ne_of q e (by intro z; cases z))]; exact q⟩
theorem RelH.frz {K : PySem.W.Frag} {H : Hp} {mu : List Addr} {h : LH} (r : RelH K H mu h) {p : Addr} {o : Obj} {xs : List V} (n : p ∉ mu) (e : H p = some (.lst xs)) : RelH K (upd H p (.frz o (.lst xs))) mu h :=
  ⟨r.len, r.nd, fun m a g h1 h2 => (r.at_ m a g h1 h2).keep (fun u q => by rw [upd_ne (fun z => n (by rw [← z]; exact List.mem_of_getElem? h1))]; exact q) fun _ _ q => q.mono (mono_frz e)⟩
theorem Ext.frz {mu mu' : List Addr} {H H' : Hp} (x : Ext mu H mu' H') {p : Addr} {o : Obj} {xs : List V} (n : H p = none) (e : H' p = some (.lst xs)) : Ext mu H mu' (upd H' p (.frz o (.lst xs))) where
  mono := x.mono.trans (mono_frz e)
  keep := fun b u q hb => by rw [upd_ne (ne_of_none q n)]; exact x.keep b u q hb
  more := x.more
  live := fun b q => by
    by_cases z : b = p
    · subst z; rw [upd_same]; simp
    · rw [upd_ne z]; exact x.live b q
theorem em_fz {f : DS → LH → Out (List D)} (h : FM X W e f) : EM X W e (eFz f) := ⟨PE.imp (pe_fz h.pe) fun st H Q ⟨ds, mu, h, rs, rh, q⟩ => ⟨ds, mu, h, rs, rh, After.step q fun l h1 v H1 mu1 eo e1 rh1 r1 q1 => by
  obtain ⟨a, xs, rfl, n, m, e, rr⟩ := r1
  have q : After X.K X.mg (fun c dd H' => W c dd st H') (rSV X.K) mu H ((f ds h).bind fun l h1 => .ok (.val (.list l)) h1) Q := q
  rw [eo] at q
  exact ⟨a, xs, rfl, e, fun o => q _ _ mu1 (e1.frz n e) (rh1.frz m e) (.lst ⟨o, upd_same⟩ (rr.mono (mono_frz e)))⟩⟩⟩
/-- read only -/
def eOwn (f : DS → LH → Out (List D)) : DS → LH → Out SV := fun ds h => (f ds h).bind fun l h1 => .ok (.own l) h1
theorem em_own {f : DS → LH → Out (List D)} (h : FM X W e f) : EM X W e (eOwn f) := ⟨PE.imp h.pe fun st H Q ⟨ds, mu, h, rs, rh, q⟩ => ⟨ds, mu, h, rs, rh, After.step q fun l h1 v H1 mu1 _ e1 rh1 r1 q1 => by
  obtain ⟨a, xs, rfl, n, m, e, rr⟩ := r1
  exact q1.here rh1 ⟨a, xs, rfl, e, m, rr⟩⟩⟩

/-! ### tests -/
variable {ta tb : DS → LH → Out Bool} {rest : List Expr}
/-- a test whatever its whole is -/
structure WM (X : Cx) (W : WX) (e : Expr) (f : DS → LH → Out Bool) : Prop where
  pw : PW X e (LT X W f)
theorem PW.imp {e : Expr} {t t' : TT} (h : PW X e t) (i : ∀ st H Q, t' st H Q → t st H Q) : PW X e t' := ⟨fun wh pins s st H Q I q => h.run wh pins s st H Q I (i _ _ _ q)⟩
theorem WM.tm {f : DS → LH → Out Bool} (h : WM X W e f) : TM X W e f := ⟨h.pw.pt⟩
def tAnd' (fa fb : DS → LH → Out Bool) : DS → LH → Out Bool := fun ds h => (fa ds h).bind fun b h1 => match b with
  | true => fb ds h1
  | false => .ok false h1
def tOr' (fa fb : DS → LH → Out Bool) : DS → LH → Out Bool := fun ds h => (fa ds h).bind fun b h1 => match b with
  | true => .ok true h1
  | false => fb ds h1
def tNot' (fa : DS → LH → Out Bool) : DS → LH → Out Bool := fun ds h => (fa ds h).bind fun b h1 => .ok (!b) h1
theorem wm_and1 (ha : TM X W a ta) : WM X W (.BoolOp .And [a] pos) ta := ⟨pw_and1 ha.pt⟩
theorem wm_or1 (ha : TM X W a ta) : WM X W (.BoolOp .Or [a] pos) ta := ⟨pw_or1 ha.pt⟩
theorem wm_and (ha : TM X W a ta) (hb : WM X W (.BoolOp .And (b :: rest) pos) tb) : WM X W (.BoolOp .And (a :: b :: rest) pos) (tAnd' ta tb) := ⟨PW.imp (pw_and ha.pt hb.pw) fun st H Q ⟨ds, mu, h, rs, rh, q⟩ => ⟨ds, mu, h, rs, rh, After.step q fun c h1 v H1 mu1 _ e1 rh1 r1 q1 => by
  subst r1
  cases v with
  | true => exact iteT ⟨ds, mu1, h1, rs.ext e1, rh1, q1⟩
  | false => exact iteF (q1.here rh1 rfl)⟩⟩
theorem wm_or (ha : TM X W a ta) (hb : WM X W (.BoolOp .Or (b :: rest) pos) tb) : WM X W (.BoolOp .Or (a :: b :: rest) pos) (tOr' ta tb) := ⟨PW.imp (pw_or ha.pt hb.pw) fun st H Q ⟨ds, mu, h, rs, rh, q⟩ => ⟨ds, mu, h, rs, rh, After.step q fun c h1 v H1 mu1 _ e1 rh1 r1 q1 => by
  subst r1
  cases v with
  | false => exact iteF ⟨ds, mu1, h1, rs.ext e1, rh1, q1⟩
  | true => exact iteT (q1.here rh1 rfl)⟩⟩
theorem tm_not (ha : TM X W a ta) : TM X W (.UnaryOp .Not a pos) (tNot' ta) := ⟨PT.imp (pt_not ha.pt) fun st H Q ⟨ds, mu, h, rs, rh, q⟩ => ⟨ds, mu, h, rs, rh, After.step q fun c h1 v H1 mu1 _ e1 rh1 r1 q1 => by
  subst r1
  exact q1.here rh1 rfl⟩⟩
/-- truth of any value -/
@[simp] def tru : SV → Option Bool
  | .val .none => some false
  | .val (.bool b) => some b
  | .val (.int i) => some (i != 0)
  | .val (.str x) => if x.length ≤ sizeLine then some ((x.length : Int) != 0) else none
  | .val (.list ds) => some (!ds.isEmpty)
  | .val (.tuple ds) => some (!ds.isEmpty)
  | .own ds => some (!ds.isEmpty)
  | _ => none
theorem isEmpty_rel {K : PySem.W.Frag} {H : Hp} {vs : List V} {ds : List D} (r : RpAll K H vs ds) : (!ds.isEmpty) = !vs.isEmpty := by cases r <;> rfl
theorem tru_rel {K : PySem.W.Frag} {H : Hp} {mu : List Addr} {v : V} {s : SV} {k : Bool} (h : tru s = some k) (r : RelSV K H mu v s) : TruV K v H k := by
  cases s with
  | val d =>
    cases d with
    | none => cases h; cases r; rfl
    | bool b => cases h; cases r; rfl
    | int i => cases h; cases r; rfl
    | str x =>
      cases r
      by_cases z : x.length ≤ sizeLine
      · simp only [tru, if_pos z, Option.some.injEq] at h
        exact ⟨z, h.symm⟩
      · simp only [tru, if_neg z] at h
        cases h
    | list ds =>
      cases h
      cases r with
      | lst f q => exact .inl ⟨_, f.sq, isEmpty_rel q⟩
    | tuple ds =>
      cases h
      cases r with
      | tup f q => exact .inr (.inl ⟨_, f, isEmpty_rel q⟩)
    | dict _ => cases h
  | own ds =>
    cases h
    obtain ⟨a, xs, rfl, e, _, q⟩ := r
    exact .inl ⟨_, rd_sq (.inl e), isEmpty_rel q⟩
  | _ => cases h
def tTru (f : DS → LH → Out SV) : DS → LH → Out Bool := fun ds h => (f ds h).bind fun x h1 => orBad (tru x) fun b => .ok b h1
/-- an expression of any kind as a test -/
theorem tm_tru (ha : EM X W a fa) (he : ∀ whole, isTrue a X.env whole = (do let v ← whole; standAt a.pos; holding [v] (truthy v)) := by intro _; rfl) : TM X W a (tTru fa) :=
  ⟨PT.imp (pt_truth ha.pe he) fun st H Q ⟨ds, mu, h, rs, rh, q⟩ => ⟨ds, mu, h, rs, rh, After.step q fun c h1 v H1 mu1 _ e1 rh1 r1 q1 => by
    obtain ⟨b, e, q2⟩ := q1.orBad
    exact ⟨b, tru_rel e r1, q2.here rh1 rfl⟩⟩⟩
/-- and, or of values that are bools (the last one of any kind) -/
def eAndV (fa fb : DS → LH → Out SV) : DS → LH → Out SV := fun ds h => (fa ds h).bind fun x h1 => orBad (asBool x) fun b => match b with
  | true => fb ds h1
  | false => .ok (.val (.bool false)) h1
def eOrV (fa fb : DS → LH → Out SV) : DS → LH → Out SV := fun ds h => (fa ds h).bind fun x h1 => orBad (asBool x) fun b => match b with
  | true => .ok (.val (.bool true)) h1
  | false => fb ds h1
theorem em_one {op} (ha : EM X W a fa) : EM X W (.BoolOp op [a] pos) fa := ⟨pe_one ha.pe⟩
theorem em_and (ha : EM X W a fa) (hb : EM X W (.BoolOp .And (b :: rest) pos) fb) : EM X W (.BoolOp .And (a :: b :: rest) pos) (eAndV fa fb) := ⟨PE.imp (pe_and ha.pe hb.pe) fun st H Q ⟨ds, mu, h, rs, rh, q⟩ => ⟨ds, mu, h, rs, rh, After.step q fun c h1 v H1 mu1 _ e1 rh1 r1 q1 => by
  obtain ⟨k, e, q2⟩ := q1.orBad
  refine ⟨k, asBool_rel e r1, ?_⟩
  cases k with
  | true => exact iteT ⟨ds, mu1, h1, rs.ext e1, rh1, q2⟩
  | false => exact iteF (q2.here rh1 (.bl _))⟩⟩
theorem em_or (ha : EM X W a fa) (hb : EM X W (.BoolOp .Or (b :: rest) pos) fb) : EM X W (.BoolOp .Or (a :: b :: rest) pos) (eOrV fa fb) := ⟨PE.imp (pe_or ha.pe hb.pe) fun st H Q ⟨ds, mu, h, rs, rh, q⟩ => ⟨ds, mu, h, rs, rh, After.step q fun c h1 v H1 mu1 _ e1 rh1 r1 q1 => by
  obtain ⟨k, e, q2⟩ := q1.orBad
  refine ⟨k, asBool_rel e r1, ?_⟩
  cases k with
  | false => exact iteF ⟨ds, mu1, h1, rs.ext e1, rh1, q2⟩
  | true => exact iteT (q2.here rh1 (.bl _))⟩⟩
def eNotV (fa : DS → LH → Out SV) : DS → LH → Out SV := fun ds h => (fa ds h).bind fun x h1 => orBad (asBool x) fun b => .ok (.val (.bool (!b))) h1
theorem em_not (ha : EM X W a fa) : EM X W (.UnaryOp .Not a pos) (eNotV fa) := ⟨PE.imp (pe_not ha.pe) fun st H Q ⟨ds, mu, h, rs, rh, q⟩ => ⟨ds, mu, h, rs, rh, After.step q fun c h1 v H1 mu1 _ e1 rh1 r1 q1 => by
  obtain ⟨k, e, q2⟩ := q1.orBad
  exact ⟨k, asBool_rel e r1, q2.here rh1 (.bl _)⟩⟩⟩
/-- a if t else b -/
def eIf (t : DS → LH → Out Bool) (fa fb : DS → LH → Out SV) : DS → LH → Out SV := fun ds h => (t ds h).bind fun b h1 => match b with
  | true => fa ds h1
  | false => fb ds h1
theorem em_if (hc : TM X W c ta) (ha : EM X W a fa) (hb : EM X W b fb) : EM X W (.IfExp c a b pos) (eIf ta fa fb) := ⟨PE.imp (pe_ifExp hc.pt ha.pe hb.pe) fun st H Q ⟨ds, mu, h, rs, rh, q⟩ => ⟨ds, mu, h, rs, rh, After.step q fun c h1 v H1 mu1 _ e1 rh1 r1 q1 => by
  subst r1
  cases v with
  | true => exact iteT ⟨ds, mu1, h1, rs.ext e1, rh1, q1⟩
  | false => exact iteF ⟨ds, mu1, h1, rs.ext e1, rh1, q1⟩⟩⟩
/-- a < b < c -/
def eChain (g g' : SV → SV → LH → Out SV) (fa fb fc : DS → LH → Out SV) : DS → LH → Out SV := fun ds h => (fa ds h).bind fun x h1 => (fb ds h1).bind fun y h2 => (g x y h2).bind fun z h3 => orBad (asBool z) fun k => match k with
  | true => (fc ds h3).bind fun w h4 => g' y w h4
  | false => .ok (.val (.bool false)) h3
theorem LE.chain {r r' : R2} {g g' : SV → SV → LH → Out SV} (hg : OpG X r g) (hg' : OpG X r' g') : ∀ st H Q, LE X W (eChain g g' fa fb fc) st H Q → tChain r r' (LE X W fa) (LE X W fb) (LE X W fc) st H Q := by
  rintro st H Q ⟨ds, mu, h, rs, rh, q⟩
  refine ⟨ds, mu, h, rs, rh, After.step q fun x h1 v H1 mu1 _ e1 rh1 r1 q1 => ⟨ds, mu1, h1, rs.ext e1, rh1, After.step q1 fun y h2 u H2 mu2 _ e2 rh2 r2 q2 => hg _ mu2 h2 H2 v u x y _ rh2 (r1.ext e2) r2 (After.step q2 fun z h3 z' H3 mu3 _ e3 rh3 r3 q3 => ?_)⟩⟩
  obtain ⟨k, e, q4⟩ := q3.orBad
  refine ⟨k, asBool_rel e r3, ?_⟩
  cases k with
  | false => exact iteF (q4.here rh3 (.bl _))
  | true => exact iteT ⟨ds, mu3, h3, ((rs.ext e1).ext e2).ext e3, rh3, After.step q4 fun w h4 w' H4 mu4 _ e4 rh4 r4 q5 => hg' _ mu4 h4 H4 u w' y w Q rh4 ((r2.ext e3).ext e4) r4 q5⟩
theorem em_chain {op op' : CmpOp} {g g' : SV → SV → LH → Out SV} (ho : OpD X (compareOp op) g) (ho' : OpD X (compareOp op') g') (ha : EM X W a fa) (hb : EM X W b fb) (hc : EM X W c fc)
    (hm : lastMarks [op, op'] [b, c] = false := by with_unfolding_all rfl) : EM X W (.Compare a [op, op'] [b, c] pos) (eChain g g' fa fb fc) := by
  obtain ⟨r, hr, hg⟩ := ho
  obtain ⟨r', hr', hg'⟩ := ho'
  exact ⟨PE.imp (pe_chain hr hr' ha.pe hb.pe hc.pe hm) (LE.chain hg hg')⟩
theorem tm_chain {op op' : CmpOp} {g g' : SV → SV → LH → Out SV} (ho : OpD X (compareOp op) g) (ho' : OpD X (compareOp op') g') (ha : EM X W a fa) (hb : EM X W b fb) (hc : EM X W c fc)
    (hm : lastMarks [op, op'] [b, c] = false := by with_unfolding_all rfl) : TM X W (.Compare a [op, op'] [b, c] pos) (tOf (eChain g g' fa fb fc)) := by
  obtain ⟨r, hr, hg⟩ := ho
  obtain ⟨r', hr', hg'⟩ := ho'
  exact ⟨PT.imp (pt_chain hr hr' ha.pe hb.pe hc.pe hm) fun st H Q q => by
    obtain ⟨ds, mu, h, rs, rh, q⟩ := LE.test st H Q q
    exact LE.chain hg hg' st H _ ⟨ds, mu, h, rs, rh, q⟩⟩

/-! ### calls of built-ins by name -/
def CallG (X : Cx) (r : List V → Hp → VK → Prop) (g : List SV → LH → Out SV) : Prop := ∀ (W : WH) (mu : List Addr) (h : LH) (H : Hp) (vs : List V) (ss : List SV) (Q : VK), RelH X.K H mu h → All2 (RelSV X.K H mu) vs ss → After X.K X.mg W (rSV X.K) mu H (g ss h) Q → r vs H Q
def CallD (X : Cx) (f : Value) (g : List SV → LH → Out SV) : Prop := ∃ r, CallR X f r ∧ CallG X r g
theorem LE.call {r : List V → Hp → VK → Prop} {g : List SV → LH → Out SV} (hg : CallG X r g) : ∀ st H Q, LE X W (eArgs g fs) st H Q → tCB r (LA X W fs) st H Q := fun st H Q ⟨ds, mu, h, rs, rh, q⟩ =>
  ⟨ds, mu, h, rs, rh, After.step q fun xs h1 vs H1 mu1 _ e1 rh1 r1 q1 => hg _ mu1 h1 H1 vs xs Q rh1 r1 q1⟩
theorem em_callB {id : String} {g : List SV → LH → Out SV} (hc : CallD X (.builtin id) g) (hg : Gl X x) (hm : X.mg x = none) (hv : bootBuiltins x = some (.builtin id)) (ha : AM X W (e :: es) fs) (hn : x ≠ "__name__" := by decide) (hdb : (x == ("__debug__" : Str)) = false := by decide)
    (he : starEach (e :: es) X.env = (false, eval e X.env) :: starEach es X.env := by rfl) (hpl : (backTo pos (starEach es X.env)).any (·.1) = false := by rfl) : EM X W (.Call (.Name x p) (e :: es) [] pos) (eArgs g fs) := by
  obtain ⟨r, hr, hG⟩ := hc
  exact ⟨PE.imp (pe_callB hr hg hm hv ha.pa hn hdb he hpl) (LE.call hG)⟩
theorem em_callTy {T : String} {g : List SV → LH → Out SV} (hc : CallD X (.type T) g) (hg : Gl X x) (hm : X.mg x = none) (hv : bootBuiltins x = some (.type T)) (ha : AM X W (e :: es) fs) (hn : x ≠ "__name__" := by decide) (hdb : (x == ("__debug__" : Str)) = false := by decide)
    (he : starEach (e :: es) X.env = (false, eval e X.env) :: starEach es X.env := by rfl) (hpl : (backTo pos (starEach es X.env)).any (·.1) = false := by rfl) : EM X W (.Call (.Name x p) (e :: es) [] pos) (eArgs g fs) := by
  obtain ⟨r, hr, hG⟩ := hc
  exact ⟨PE.imp (pe_callTy hr hg hm hv ha.pa hn hdb he hpl) (LE.call hG)⟩
/-- the only argument -/
@[simp] def arg1 : List SV → Option SV
  | [x] => some x
  | _ => none
@[simp] def arg2 : List SV → Option (SV × SV)
  | [x, y] => some (x, y)
  | _ => none
theorem arg1_rel {K : PySem.W.Frag} {H : Hp} {mu : List Addr} {vs : List V} {ss : List SV} {s : SV} (h : arg1 ss = some s) (r : All2 (RelSV K H mu) vs ss) : ∃ v, vs = [v] ∧ RelSV K H mu v s := by
  unfold arg1 at h
  split at h
  · cases h
    cases r with
    | cons r t => cases t; exact ⟨_, rfl, r⟩
  · cases h
theorem arg2_rel {K : PySem.W.Frag} {H : Hp} {mu : List Addr} {vs : List V} {ss : List SV} {s : SV × SV} (h : arg2 ss = some s) (r : All2 (RelSV K H mu) vs ss) : ∃ v u, vs = [v, u] ∧ RelSV K H mu v s.1 ∧ RelSV K H mu u s.2 := by
  unfold arg2 at h
  split at h
  · cases h
    cases r with
    | cons r t =>
      cases t with
      | cons r' t => cases t; exact ⟨_, _, rfl, r, r'⟩
  · cases h
/-- len -/
@[simp] def lenS : SV → Option Nat
  | .val (.str x) => if x.length ≤ sizeLine then some x.length else none
  | .val (.list ds) => some ds.length
  | .val (.tuple ds) => some ds.length
  | .own ds => some ds.length
  | .scr ns => some ns.length
  | _ => none
theorem lenS_rel {K : PySem.W.Frag} {H : Hp} {mu : List Addr} {v : V} {s : SV} {n : Nat} (h : lenS s = some n) (r : RelSV K H mu v s) : LenV K v H n := by
  cases s with
  | val d =>
    cases d with
    | str x =>
      cases r
      by_cases z : x.length ≤ sizeLine
      · simp only [lenS, if_pos z, Option.some.injEq] at h
        exact ⟨z, h.symm⟩
      · simp only [lenS, if_neg z] at h
        cases h
    | list ds =>
      cases h
      cases r with
      | lst f q => exact .inl ⟨_, f.sq, q.length.symm⟩
    | tuple ds =>
      cases h
      cases r with
      | tup f q => exact .inr ⟨_, f, q.length.symm⟩
    | _ => cases h
  | own ds =>
    cases h
    obtain ⟨a, xs, rfl, e, _, q⟩ := r
    exact .inl ⟨_, rd_sq (.inl e), q.length.symm⟩
  | scr ns =>
    cases h
    obtain ⟨a, rfl, q⟩ := r
    exact .inl ⟨_, q.sq, by simp⟩
  | _ => cases h
def gLen (xs : List SV) (h : LH) : Out SV := orBad (arg1 xs) fun x => orBad (lenS x) fun n => .ok (.val (.int n)) h
theorem cd_len : CallD X (.builtin "len") gLen := ⟨_, call_len, fun W mu h H vs ss Q rh rr q => by
  obtain ⟨x, e, q⟩ := q.orBad
  obtain ⟨n, en, q⟩ := q.orBad
  obtain ⟨v, rfl, r⟩ := arg1_rel e rr
  exact ⟨v, n, rfl, lenS_rel en r, q.here rh (.int _)⟩⟩
/-- int(..) -/
def gInt (xs : List SV) (h : LH) : Out SV := orBad (arg1 xs) fun x =>
  orNext (asInt x) (fun i => .ok (.val (.int i)) h) <|
  orNext (asBool x) (fun b => .ok (.val (.int (if b then 1 else 0))) h) <|
  orBad (asStr x) fun a => orBad (PySem.intText? a) fun n => iff (a.length ≤ 640) (.ok (.val (.int n)) h)
theorem cd_int : CallD X (.type "int") gInt := ⟨_, CallR.or call_int1 call_int_str, fun W mu h H vs ss Q rh rr q => by
  obtain ⟨x, e, q⟩ := q.orBad
  obtain ⟨v, rfl, r⟩ := arg1_rel e rr
  rcases q.orNext with ⟨i, ei, q⟩ | q
  · exact .inl (.inl ⟨i, by rw [asInt_rel ei r], q.here rh (.int _)⟩)
  rcases q.orNext with ⟨b, ei, q⟩ | q
  · exact .inl (.inr ⟨b, by rw [asBool_rel ei r], q.here rh (.int _)⟩)
  · obtain ⟨a, ea, q⟩ := q.orBad
    obtain ⟨n, en, q⟩ := q.orBad
    obtain ⟨hz, q⟩ := q.iff
    exact .inr ⟨a, n, by rw [asStr_rel ea r], en, hz, q.here rh (.int _)⟩⟩
def gAbs (xs : List SV) (h : LH) : Out SV := orBad (arg1 xs) fun x => orBad (asInt x) fun i => .ok (.val (.int (if i < 0 then -i else i))) h
theorem cd_abs : CallD X (.builtin "abs") gAbs := ⟨_, call_abs, fun W mu h H vs ss Q rh rr q => by
  obtain ⟨x, e, q⟩ := q.orBad
  obtain ⟨i, ei, q⟩ := q.orBad
  obtain ⟨v, rfl, r⟩ := arg1_rel e rr
  exact ⟨i, by rw [asInt_rel ei r], q.here rh (.int _)⟩⟩
def gMax (xs : List SV) (h : LH) : Out SV := orBad (arg2 xs) fun p => orBad (both (asInt p.1) (asInt p.2)) fun p => .ok (.val (.int (if p.2 > p.1 then p.2 else p.1))) h
theorem cd_max (hc : X.calm = true) : CallD X (.builtin "max") gMax := ⟨_, call_max2 hc, fun W mu h H vs ss Q rh rr q => by
  obtain ⟨x, e, q⟩ := q.orBad
  obtain ⟨i, ei, q⟩ := q.orBad
  obtain ⟨v, u, rfl, r, r'⟩ := arg2_rel e rr
  obtain ⟨e1, e2⟩ := both_of ei
  exact ⟨i.1, i.2, by rw [asInt_rel e1 r, asInt_rel e2 r'], q.here rh (.int _)⟩⟩
def gMin (xs : List SV) (h : LH) : Out SV := orBad (arg2 xs) fun p => orBad (both (asInt p.1) (asInt p.2)) fun p => .ok (.val (.int (if p.2 < p.1 then p.2 else p.1))) h
theorem cd_min (hc : X.calm = true) : CallD X (.builtin "min") gMin := ⟨_, call_min2 hc, fun W mu h H vs ss Q rh rr q => by
  obtain ⟨x, e, q⟩ := q.orBad
  obtain ⟨i, ei, q⟩ := q.orBad
  obtain ⟨v, u, rfl, r, r'⟩ := arg2_rel e rr
  obtain ⟨e1, e2⟩ := both_of ei
  exact ⟨i.1, i.2, by rw [asInt_rel e1 r, asInt_rel e2 r'], q.here rh (.int _)⟩⟩
def gStr (xs : List SV) (h : LH) : Out SV := orBad (arg1 xs) fun x => orBad (asInt x) fun i => iff (i.natAbs < 2 ^ 64) (.ok (.val (.str (toString i))) h)
theorem cd_str : CallD X (.type "str") gStr := ⟨_, call_str_int, fun W mu h H vs ss Q rh rr q => by
  obtain ⟨x, e, q⟩ := q.orBad
  obtain ⟨i, ei, q⟩ := q.orBad
  obtain ⟨hz, q⟩ := q.iff
  obtain ⟨v, rfl, r⟩ := arg1_rel e rr
  refine ⟨i, by rw [asInt_rel ei r], ?_, q.here rh (.str _)⟩
  by_cases z : i.natAbs = 0
  · rw [z]; decide
  · have := (Nat.log2_lt z).mpr hz
    omega⟩
/-- tuple(..), list(..) -/
def gTuple (xs : List SV) (h : LH) : Out SV := orBad (arg1 xs) fun x => orBad (asSeq x) fun ds => .ok (.val (.tuple ds)) h
theorem cd_tuple : CallD X (.type "tuple") gTuple := ⟨_, call_tuple_of, fun W mu h H vs ss Q rh rr q => by
  obtain ⟨x, e, q⟩ := q.orBad
  obtain ⟨ds, ei, q⟩ := q.orBad
  obtain ⟨v, rfl, r⟩ := arg1_rel e rr
  obtain ⟨a, ys, rfl, hs, rl⟩ := asSeq_rel ei r
  refine ⟨a, ys, rfl, ?_⟩
  rcases hs with hs | hs
  · exact .inl ⟨hs, after_tup rh rl q⟩
  · exact .inr ⟨hs, q.here rh (.tup hs rl)⟩⟩
theorem callR_fz {f : Value} {r : List V → Hp → VK → Prop} (h : CallR X f r) : CallR X f (fun xs H Q => r xs H (Fz Q)) := fun pins s st H xs us Q I rr q => thn (h pins s st H xs us _ I rr q) fun _ _ z => ep_fz z
def gList (xs : List SV) (h : LH) : Out SV := orBad (arg1 xs) fun x => orBad (asSeq x) fun ds => .ok (.val (.list ds)) h
theorem cd_list : CallD X (.type "list") gList := ⟨_, callR_fz call_list_of, fun W mu h H vs ss Q rh rr q => by
  obtain ⟨x, e, q⟩ := q.orBad
  obtain ⟨ds, ei, q⟩ := q.orBad
  obtain ⟨v, rfl, r⟩ := arg1_rel e rr
  obtain ⟨a, ys, rfl, hs, rl⟩ := asSeq_rel ei r
  exact ⟨a, ys, rfl, hs, after_lst rh rl q⟩⟩
/-- all, any -/
@[simp] def asBools : List D → Option (List Bool)
  | [] => some []
  | .bool b :: r => match asBools r with
    | some bs => some (b :: bs)
    | none => none
  | _ => none
theorem asBools_of : ∀ {ds : List D} {bs : List Bool}, asBools ds = some bs → ds = bs.map PyData.bool
  | [], _, h => by cases h; rfl
  | d :: r, bs, h => by
    cases d with
    | bool b =>
      cases e : asBools r with
      | none => simp only [asBools, e] at h; cases h
      | some bs' =>
        simp only [asBools, e, Option.some.injEq] at h
        subst h
        rw [asBools_of e]; rfl
    | _ => cases h
def gAll (xs : List SV) (h : LH) : Out SV := orBad (arg1 xs) fun x => orBad (asLst x) fun ds => orBad (asBools ds) fun bs => .ok (.val (.bool (bs.all id))) h
def gAny (xs : List SV) (h : LH) : Out SV := orBad (arg1 xs) fun x => orBad (asLst x) fun ds => orBad (asBools ds) fun bs => .ok (.val (.bool (bs.any id))) h
theorem bools_rel {K : PySem.W.Frag} {H : Hp} {mu : List Addr} {v : V} {s : SV} {ds : List D} {bs : List Bool} (e : asLst s = some ds) (eb : asBools ds = some bs) (r : RelSV K H mu v s) : ∃ a, v = .ref a ∧ SqL K H a (bs.map V.bl) := by
  obtain ⟨a, xs, rfl, h, q⟩ := asLst_rel e r
  rw [asBools_of eb] at q
  rw [RpAll.bls_inv q] at h
  exact ⟨a, rfl, rd_sq h⟩
theorem cd_all (hc : X.calm = true) : CallD X (.builtin "all") gAll := ⟨_, cr_all hc, fun W mu h H vs ss Q rh rr q => by
  obtain ⟨x, e, q⟩ := q.orBad
  obtain ⟨ds, ed, q⟩ := q.orBad
  obtain ⟨bs, eb, q⟩ := q.orBad
  obtain ⟨v, rfl, r⟩ := arg1_rel e rr
  obtain ⟨a, rfl, hs⟩ := bools_rel ed eb r
  exact ⟨a, bs, rfl, hs, q.here rh (.bl _)⟩⟩
theorem cd_any (hc : X.calm = true) : CallD X (.builtin "any") gAny := ⟨_, cr_any hc, fun W mu h H vs ss Q rh rr q => by
  obtain ⟨x, e, q⟩ := q.orBad
  obtain ⟨ds, ed, q⟩ := q.orBad
  obtain ⟨bs, eb, q⟩ := q.orBad
  obtain ⟨v, rfl, r⟩ := arg1_rel e rr
  obtain ⟨a, rfl, hs⟩ := bools_rel ed eb r
  exact ⟨a, bs, rfl, hs, q.here rh (.bl _)⟩⟩
end
end U
/-! U4: isinstance, methods, comprehensions, calls of defs. -/
namespace U
open PySem PySem.Spec PyProof.Rows L2
section
variable {X : Cx} {W : WX} {a b c e : Expr} {fa fb fc f : DS → LH → Out SV} {pos p : Pos} {x : Str} {es : List Expr} {fs : DS → LH → Out (List SV)}

/-! ### isinstance -/
def tyD : D → String
  | .none => "NoneType" | .bool _ => "bool" | .int _ => "int" | .str _ => "str" | .list _ => "list" | .tuple _ => "tuple" | .dict _ => "dict"
@[simp] def isTy (T : String) : D → Bool
  | .none => false | .bool _ => T == "bool" || T == "int" | .int _ => T == "int" | .str _ => T == "str" | .list _ => T == "list" | .tuple _ => T == "tuple" | .dict _ => T == "dict"
def tysOk : List String := ["str", "int", "bool", "tuple", "list"]
theorem kit_none : ∀ T ∈ tysOk, kitB "NoneType" T = some (isTy T .none) := by decide +kernel
theorem kit_bool : ∀ T ∈ tysOk, kitB "bool" T = some (isTy T (.bool true)) := by decide +kernel
theorem kit_int : ∀ T ∈ tysOk, kitB "int" T = some (isTy T (.int 0)) := by decide +kernel
theorem kit_str : ∀ T ∈ tysOk, kitB "str" T = some (isTy T (.str ⟨#[]⟩)) := by decide +kernel
theorem kit_list : ∀ T ∈ tysOk, kitB "list" T = some (isTy T (.list [])) := by decide +kernel
theorem kit_tuple : ∀ T ∈ tysOk, kitB "tuple" T = some (isTy T (.tuple [])) := by decide +kernel
@[simp] def isiS (T : String) : SV → Option Bool
  | .val (.dict _) => none
  | .val d => some (isTy T d)
  | .own _ => some (T == "list")
  | .scr _ => some (T == "list")
  | _ => none
theorem sqt_ty {K : PySem.W.Frag} {H : Hp} {a : Addr} {xs : List V} (h : SqT K H a xs) : TyX K H (.ref a) (.type "tuple") := by
  rcases h with (h | ⟨o, h⟩) | ⟨o, its, n, h, c, _⟩
  · exact .base (.tup h)
  · exact .fTuple h
  · exact .kTuple h c
theorem isiS_rel {K : PySem.W.Frag} {H : Hp} {mu : List Addr} {v : V} {s : SV} {T : String} {r : Bool} (hT : T ∈ tysOk) (h : isiS T s = some r) (rl : RelSV K H mu v s) : ∃ t, TyX K H v t ∧ PySem.W.kitOne K t (.type T) = some r := by
  cases s with
  | val d =>
    cases d with
    | none => cases h; cases rl; exact ⟨_, .base .non, kit_ty (kit_none T hT)⟩
    | bool b => cases h; cases rl; exact ⟨_, .base (.bl b), kit_ty (kit_bool T hT)⟩
    | int b => cases h; cases rl; exact ⟨_, .base (.int b), kit_ty (kit_int T hT)⟩
    | str b => cases h; cases rl; exact ⟨_, .base (.str b), kit_ty (kit_str T hT)⟩
    | list b =>
      cases h
      cases rl with
      | lst f q => obtain ⟨o, f⟩ := f; exact ⟨_, .base (.frz f), kit_ty (kit_list T hT)⟩
    | tuple b =>
      cases h
      cases rl with
      | tup f q => exact ⟨_, sqt_ty f, kit_ty (kit_tuple T hT)⟩
    | dict b => cases h
  | own ds => cases h; obtain ⟨a, xs, rfl, e, _, _⟩ := rl; exact ⟨_, .base (.lst e), kit_ty (kit_list T hT)⟩
  | scr ds =>
    cases h
    obtain ⟨a, rfl, q⟩ := rl
    rcases q with ⟨o, q⟩ | ⟨o, its, n, q, c, _⟩
    · exact ⟨_, .base (.frz q), kit_ty (kit_list T hT)⟩
    · exact ⟨_, .kList q c, kit_ty (kit_list T hT)⟩
  | _ => cases h
def eIsi (T : String) (fa : DS → LH → Out SV) : DS → LH → Out SV := fun ds h => (fa ds h).bind fun x h1 => orBad (isiS T x) fun b => .ok (.val (.bool b)) h1
theorem em_isi {T : String} {x : Str} {p2 : Pos} (ha : EM X W a fa) (hT : T ∈ tysOk) (hg : Gl X "isinstance") (hm : X.mg "isinstance" = none) (hg2 : Gl X x) (hm2 : X.mg x = none) (hv2 : bootBuiltins x = some (.type T)) (hn : x ≠ "__name__" := by decide) (hd : (x == ("__debug__" : Str)) = false := by decide)
    (hst : starEach [a, .Name x p2] X.env = (false, eval a X.env) :: starEach [.Name x p2] X.env := by rfl)
    (hpl : (backTo pos (starEach [.Name x p2] X.env)).any (·.1) = false := by rfl) : EM X W (.Call (.Name "isinstance" p) [a, .Name x p2] [] pos) (eIsi T fa) := by
  refine ⟨PE.imp (pe_callB call_isi hg hm boot_isinstance (pa_cons ha.pe (pa_cons (pe_bltn (v := .ty T) hg2 hm2 hv2 rfl hn hd) pa_nil) hst) (by decide) (by decide) hst hpl) fun st H Q ⟨ds, mu, h, rs, rh, q⟩ => ?_⟩
  refine ⟨ds, mu, h, rs, rh, After.step q fun s h1 v H1 mu1 _ e1 rh1 r1 q1 => ?_⟩
  obtain ⟨b, e, q2⟩ := q1.orBad
  obtain ⟨t, ty, k⟩ := isiS_rel hT e r1
  exact ⟨v, .ty T, t, .type T, b, rfl, .ty T, ty, k, q2.here rh1 (.bl _)⟩

/-! ### methods of texts -/
variable {o : Expr} {fo : DS → LH → Out SV} {apos : Pos}
def eS0 (g : Str → LH → Out SV) (fo : DS → LH → Out SV) : DS → LH → Out SV := fun ds h => (fo ds h).bind fun x h1 => orBad (asStr x) fun a => g a h1
def eS1 (g : Str → SV → LH → Out SV) (fo fe : DS → LH → Out SV) : DS → LH → Out SV := fun ds h => (fo ds h).bind fun x h1 => orBad (asStr x) fun a => (fe ds h1).bind fun y h2 => g a y h2
theorem LE.s1 {g : Str → SV → LH → Out SV} {r : V → List V → Hp → VK → Prop} (hr : ∀ (W : WH) (mu : List Addr) (h : LH) (H : Hp) (a : Str) (u : V) (y : SV) (Q : VK), RelH X.K H mu h → RelSV X.K H mu u y → After X.K X.mg W (rSV X.K) mu H (g a y h) Q → r (.str a) [u] H Q) :
    ∀ st H Q, LE X W (eS1 g fo fb) st H Q → tM1 r (LE X W fo) (LE X W fb) st H Q := fun st H Q ⟨ds, mu, h, rs, rh, q⟩ =>
  ⟨ds, mu, h, rs, rh, After.step q fun x h1 v H1 mu1 _ e1 rh1 r1 q1 => by
    obtain ⟨z, e, q2⟩ := q1.orBad
    have ev := asStr_rel e r1
    subst ev
    exact ⟨⟨z, rfl⟩, ds, mu1, h1, rs.ext e1, rh1, After.step q2 fun y h2 u H2 mu2 _ e2 rh2 r2 q3 => hr _ mu2 h2 H2 z u y Q rh2 r2 q3⟩⟩
def gSplit (a : Str) (y : SV) (h : LH) : Out SV := orBad (asStr y) fun b => iff ((b.length == 0) = false ∧ a.length + 2 ≤ sizeLine) (.ok (.val (.list ((Txt.split a b).map PyData.str))) h)
theorem em_split (ho : EM X W o fo) (he : EM X W e fb) (hs : starEach [e] X.env = [(false, eval e X.env)] := by rfl) (hbase : attributeBase o "split" X.env (eval o X.env) = eval o X.env := by rfl) (hline : (apos.endLine == pos.line) = true := by rfl) :
    EM X W (.Call (.Attribute o "split" apos) [e] [] pos) (eS1 gSplit fo fb) := ⟨PE.imp (pe_fz (pe_split ho.pe he.pe hs hbase hline)) fun st H Q q =>
  LE.s1 (r := fun x xs H Q' => ∃ a b, x = .str a ∧ xs = [.str b] ∧ (b.length == 0) = false ∧ a.length + 2 ≤ sizeLine ∧ rNewStrs (Txt.split a b) H (Fz Q')) (fun W mu h H a u y Q rh r q => by
    obtain ⟨b, e, q⟩ := q.orBad
    obtain ⟨⟨z1, z2⟩, q⟩ := q.iff
    have eu := asStr_rel e r
    subst eu
    exact ⟨a, b, rfl, rfl, z1, z2, after_lst rh (RpAll.strs _) q⟩) st H Q q⟩
def gStarts (a : Str) (y : SV) (h : LH) : Out SV := orBad (asStr y) fun b => .ok (.val (.bool (Txt.startswith a b))) h
theorem em_starts (ho : EM X W o fo) (he : EM X W e fb) (hs : starEach [e] X.env = [(false, eval e X.env)] := by rfl) (hbase : attributeBase o "startswith" X.env (eval o X.env) = eval o X.env := by rfl) (hline : (apos.endLine == pos.line) = true := by rfl) :
    EM X W (.Call (.Attribute o "startswith" apos) [e] [] pos) (eS1 gStarts fo fb) := ⟨PE.imp (pe_m1 F.slot_str_startswith F.type_str_startswith mt_startswith ho.pe he.pe hs hbase hline) fun st H Q q =>
  LE.s1 (fun W mu h H a u y Q rh r q => by
    obtain ⟨b, e, q⟩ := q.orBad
    have eu := asStr_rel e r
    subst eu
    exact ⟨a, b, rfl, rfl, q.here rh (.bl _)⟩) st H Q q⟩
@[simp] def asStrs : List D → Option (List Str)
  | [] => some []
  | .str b :: r => match asStrs r with
    | some bs => some (b :: bs)
    | none => none
  | _ => none
theorem asStrs_of : ∀ {ds : List D} {bs : List Str}, asStrs ds = some bs → ds = bs.map PyData.str
  | [], _, h => by cases h; rfl
  | d :: r, bs, h => by
    cases d with
    | str b =>
      cases e : asStrs r with
      | none => simp only [asStrs, e] at h; cases h
      | some bs' =>
        simp only [asStrs, e, Option.some.injEq] at h
        subst h
        rw [asStrs_of e]; rfl
    | _ => cases h
@[simp] theorem asStrs_map : ∀ bs : List Str, asStrs (bs.map PyData.str) = some bs
  | [] => rfl
  | b :: r => by simp [asStrs_map r]
@[simp] theorem asBools_map : ∀ bs : List Bool, asBools (bs.map PyData.bool) = some bs
  | [] => rfl
  | b :: r => by simp [asBools_map r]
def gJoin (a : Str) (y : SV) (h : LH) : Out SV := orBad (asSeq y) fun ds => orBad (asStrs ds) fun ys => iff ((ys.map (·.length)).sum + ys.length * a.length ≤ 16777216) (.ok (.val (.str (Txt.join a ys))) h)
theorem em_join (ho : EM X W o fo) (he : EM X W e fb) (hs : starEach [e] X.env = [(false, eval e X.env)] := by rfl) (hbase : attributeBase o "join" X.env (eval o X.env) = eval o X.env := by rfl) (hline : (apos.endLine == pos.line) = true := by rfl) :
    EM X W (.Call (.Attribute o "join" apos) [e] [] pos) (eS1 gJoin fo fb) := ⟨PE.imp (pe_m1 F.slot_str_join F.type_str_join mt_join ho.pe he.pe hs hbase hline) fun st H Q q =>
  LE.s1 (fun W mu h H a u y Q rh r q => by
    obtain ⟨ds, e, q⟩ := q.orBad
    obtain ⟨ys, ey, q⟩ := q.orBad
    obtain ⟨hz, q⟩ := q.iff
    obtain ⟨p, xs, rfl, hs, rr⟩ := asSeq_rel e r
    rw [asStrs_of ey] at rr
    rw [RpAll.strs_inv rr] at hs
    exact ⟨a, p, ys, rfl, rfl, hs, hz, q.here rh (.str _)⟩) st H Q q⟩

/-! ### what is walked -/
/-- the items of a walk -/
def Serves (K : PySem.W.Frag) (J : It) (H0 : Hp) (items : List D) : Prop := ∀ i H, Mono H0 H →
  (∀ d, items[i]? = some d → J.go i H ∧ ∀ v H', J.yld i H v H' → Ext [] H [] H' ∧ Rp K H' v d) ∧ (items.length ≤ i → J.stop i H)
structure IM (X : Cx) (W : WX) (tg e : Expr) (f : DS → LH → Out (List D)) : Prop where
  pi : PI X tg e fun st H R => ∃ ds mu h, RelS X.K X.mg X.pn H mu st ds ∧ RelH X.K H mu h ∧ After X.K X.mg (fun c dd H' => W c dd st H') (fun H' mu' J items => Serves X.K J H' items) mu H (f ds h) R
theorem PI.or {tg e : Expr} {t t' : TI} (h : PI X tg e t) (h' : PI X tg e t') : PI X tg e (fun st H R => t st H R ∨ t' st H R) := ⟨fun pins s st H R I q => q.elim (h.run pins s st H R I) (h'.run pins s st H R I)⟩
theorem serves_list {K : PySem.W.Frag} {H0 : Hp} {a : Addr} {xs : List V} {ds : List D} (hs : ∀ H, Mono H0 H → SqL K H a xs) (r : RpAll K H0 xs ds) : Serves K (Itl K a) H0 ds := fun i H m =>
  ⟨fun d e => by
    obtain ⟨v, ev, rv⟩ := r.get e
    exact ⟨⟨xs, v, hs H m, ev⟩, fun w H' ⟨eH, hw⟩ => by
      subst eH
      have := hw xs (hs _ m)
      rw [ev] at this
      cases this
      exact ⟨.refl _ _, rv.mono m⟩⟩, fun hl => ⟨xs, hs H m, by rw [r.length]; exact hl⟩⟩
theorem serves_tup {K : PySem.W.Frag} {H0 : Hp} {a : Addr} {xs : List V} {ds : List D} (hs : ∀ H, Mono H0 H → SqT K H a xs) (r : RpAll K H0 xs ds) : Serves K (Itt K a) H0 ds := fun i H m =>
  ⟨fun d e => by
    obtain ⟨v, ev, rv⟩ := r.get e
    exact ⟨⟨xs, v, hs H m, ev⟩, fun w H' ⟨eH, hw⟩ => by
      subst eH
      have := hw xs (hs _ m)
      rw [ev] at this
      cases this
      exact ⟨.refl _ _, rv.mono m⟩⟩, fun hl => ⟨xs, hs H m, by rw [r.length]; exact hl⟩⟩
/-- the items of a list or a tuple that stays -/
@[simp] def asFix : SV → Option (List D)
  | .val (.list l) => some l
  | .val (.tuple l) => some l
  | _ => none
theorem asFix_rel {K : PySem.W.Frag} {H : Hp} {mu : List Addr} {v : V} {s : SV} {l : List D} (h : asFix s = some l) (r : RelSV K H mu v s) : ∃ a xs, v = .ref a ∧ RpAll K H xs l ∧ (FzL H a xs ∨ SqT K H a xs) := by
  cases s with
  | val d =>
    cases d with
    | list b =>
      cases h
      cases r with
      | lst f q => exact ⟨_, _, rfl, q, .inl f⟩
    | tuple b =>
      cases h
      cases r with
      | tup f q => exact ⟨_, _, rfl, q, .inr f⟩
    | _ => cases h
  | _ => cases h
def iSeq (f : DS → LH → Out SV) : DS → LH → Out (List D) := fun ds h => (f ds h).bind fun x h1 => orBad (asFix x) fun l => .ok l h1
theorem im_seq {tg : Expr} (ha : EM X W a fa) : IM X W tg a (iSeq fa) := ⟨PI.imp (PI.or (pi_list ha.pe) (pi_tup ha.pe)) fun st H R ⟨ds, mu, h, rs, rh, q⟩ => by
  have key : After X.K X.mg (fun c dd H' => W c dd st H') (rSV X.K) mu H (fa ds h) (fun v H1 => ∃ a xs, v = .ref a ∧ ((FzL H1 a xs ∧ R (Itl X.K a) H1) ∨ (SqT X.K H1 a xs ∧ R (Itt X.K a) H1))) :=
    After.step q fun x h1 v H1 mu1 _ e1 rh1 r1 q1 => by
      obtain ⟨l, e, q2⟩ := q1.orBad
      obtain ⟨a, xs, rfl, rr, hs⟩ := asFix_rel e r1
      refine ⟨a, xs, rfl, ?_⟩
      rcases hs with hs | hs
      · exact .inl ⟨hs, q2.here rh1 (serves_list (fun H m => (m.fzl hs).sq) rr)⟩
      · exact .inr ⟨hs, q2.here rh1 (serves_tup (fun H m => m.sqt hs) rr)⟩
  -- which of the two
  cases e : fa ds h with
  | bad => rw [e] at key; exact key.elim
  | exc x h' => exact .inl ⟨ds, mu, h, rs, rh, by rw [e] at key ⊢; exact key⟩
  | ok x h1 =>
    unfold iSeq at q
    rw [e] at q
    have q : After X.K X.mg (fun c dd H' => W c dd st H') _ mu H (orBad (asFix x) fun l => .ok l h1) R := q
    obtain ⟨l, ex, q2⟩ := q.orBad
    have two : (∃ l, x = .val (.list l)) ∨ ∃ l, x = .val (.tuple l) := by
      cases x with
      | val d => cases d <;> first | exact .inl ⟨_, rfl⟩ | exact .inr ⟨_, rfl⟩ | cases ex
      | _ => cases ex
    rcases two with ⟨l', rfl⟩ | ⟨l', rfl⟩
    · refine .inl ⟨ds, mu, h, rs, rh, ?_⟩
      rw [e]
      intro v H1 mu1 e1 rh1 r1
      cases r1 with
      | lst f rr =>
        cases ex
        exact ⟨_, rfl, ⟨_, f.sq⟩, q2 _ H1 mu1 e1 rh1 (serves_list (fun H m => (m.fzl f).sq) rr)⟩
    · refine .inr ⟨ds, mu, h, rs, rh, ?_⟩
      rw [e]
      intro v H1 mu1 e1 rh1 r1
      cases r1 with
      | tup f rr =>
        cases ex
        exact ⟨_, rfl, ⟨_, f⟩, q2 _ H1 mu1 e1 rh1 (serves_tup (fun H m => m.sqt f) rr)⟩⟩
/-- sign by sign -/
def signs (x : Str) : List D := x.cps.toList.map fun c => PyData.str ⟨#[c]⟩
def iStr' (f : DS → LH → Out SV) : DS → LH → Out (List D) := fun ds h => (f ds h).bind fun x h1 => orBad (asStr x) fun l => .ok (signs l) h1
theorem serves_str {K : PySem.W.Frag} {H0 : Hp} (x : Str) : Serves K (Its x) H0 (signs x) := fun i H m =>
  ⟨fun d e => by
    unfold signs at e
    rw [List.getElem?_map, Option.map_eq_some_iff] at e
    obtain ⟨c, ec, rfl⟩ := e
    rw [Array.getElem?_toList] at ec
    refine ⟨(Array.getElem?_eq_some_iff.mp ec).1, fun w H' ⟨eH, c', ec', hw⟩ => ?_⟩
    subst eH hw
    rw [ec] at ec'
    cases ec'
    exact ⟨.refl _ _, .str _⟩, fun hl => by
    have : (signs x).length = x.cps.size := by unfold signs; rw [List.length_map, Array.length_toList]
    show x.cps.size ≤ i
    omega⟩
theorem im_str {tg : Expr} (ha : EM X W a fa) : IM X W tg a (iStr' fa) := ⟨PI.imp (pi_str ha.pe) fun st H R ⟨ds, mu, h, rs, rh, q⟩ => ⟨ds, mu, h, rs, rh, After.step q fun x h1 v H1 mu1 _ e1 rh1 r1 q1 => by
  obtain ⟨l, e, q2⟩ := q1.orBad
  exact ⟨l, asStr_rel e r1, q2.here rh1 (serves_str l)⟩⟩⟩
/-- range -/
def rangeD (lo : Int) (n : Nat) : List D := (List.range n).map fun i => PyData.int (lo + (i : Nat))
theorem serves_range {K : PySem.W.Frag} {H0 : Hp} (lo : Int) (n : Nat) : Serves K (Itr lo n) H0 (rangeD lo n) := fun i H m =>
  ⟨fun d e => by
    unfold rangeD at e
    rw [List.getElem?_map, Option.map_eq_some_iff] at e
    obtain ⟨c, ec, rfl⟩ := e
    obtain ⟨h1, h2⟩ := List.getElem?_eq_some_iff.mp ec
    rw [List.getElem_range] at h2
    subst h2
    rw [List.length_range] at h1
    refine ⟨h1, fun w H' ⟨eH, hw⟩ => ?_⟩
    subst eH hw
    exact ⟨.refl _ _, .int _⟩, fun hl => by
    have : (rangeD lo n).length = n := by unfold rangeD; rw [List.length_map, List.length_range]
    show n ≤ i
    omega⟩
def okR (i : Int) : Prop := -(2 ^ 62) ≤ i ∧ i < 2 ^ 62
instance (i : Int) : Decidable (okR i) := by unfold okR; infer_instance
def iRange1 (fs : DS → LH → Out (List SV)) : DS → LH → Out (List D) := fun ds h => (fs ds h).bind fun xs h1 => orBad (arg1 xs) fun x => orBad (asInt x) fun j => iff (okR j) (.ok (rangeD 0 j.toNat) h1)
def iRange2 (fs : DS → LH → Out (List SV)) : DS → LH → Out (List D) := fun ds h => (fs ds h).bind fun xs h1 => orBad (arg2 xs) fun p => orBad (both (asInt p.1) (asInt p.2)) fun p => iff (okR p.1 ∧ okR p.2) (.ok (rangeD p.1 (p.2 - p.1).toNat) h1)
theorem im_range1 {tg : Expr} (hg : Gl X "range") (hm : X.mg "range" = none) (ha : AM X W [a] fs) (hs : starEach [a] X.env = [(false, eval a X.env)] := by rfl) : IM X W tg (.Call (.Name "range" p) [a] [] pos) (iRange1 fs) := ⟨PI.imp (pi_range1 hg hm ha.pa hs) fun st H R ⟨ds, mu, h, rs, rh, q⟩ => ⟨ds, mu, h, rs, rh, After.step q fun x h1 v H1 mu1 _ e1 rh1 r1 q1 => by
  obtain ⟨y, ey, q2⟩ := q1.orBad
  obtain ⟨j, ej, q2⟩ := q2.orBad
  obtain ⟨⟨z1, z2⟩, q2⟩ := q2.iff
  obtain ⟨u, rfl, r⟩ := arg1_rel ey r1
  exact ⟨j, by rw [asInt_rel ej r], z1, z2, q2.here rh1 (serves_range 0 _)⟩⟩⟩
theorem im_range2 {tg : Expr} (hg : Gl X "range") (hm : X.mg "range" = none) (ha : AM X W [a, b] fs) (hs : starEach [a, b] X.env = [(false, eval a X.env), (false, eval b X.env)] := by rfl) (hs2 : starEach [b] X.env = [(false, eval b X.env)] := by rfl) : IM X W tg (.Call (.Name "range" p) [a, b] [] pos) (iRange2 fs) := ⟨PI.imp (pi_range2 hg hm ha.pa hs hs2) fun st H R ⟨ds, mu, h, rs, rh, q⟩ => ⟨ds, mu, h, rs, rh, After.step q fun x h1 v H1 mu1 _ e1 rh1 r1 q1 => by
  obtain ⟨y, ey, q2⟩ := q1.orBad
  obtain ⟨j, ej, q2⟩ := q2.orBad
  obtain ⟨⟨z1, z2⟩, q2⟩ := q2.iff
  obtain ⟨v, u, rfl, r, r'⟩ := arg2_rel ey r1
  obtain ⟨e1, e2⟩ := both_of ej
  exact ⟨_, _, by rw [asInt_rel e1 r, asInt_rel e2 r'], ⟨z1.1, z1.2, z2.1, z2.2⟩, q2.here rh1 (serves_range _ _)⟩⟩⟩

/-! ### targets of loops -/
structure TgOk (is : List Nat) (st : L2.St) (ds : DS) (st' : L2.St) (ds' : DS) : Prop where
  len : st'.length = st.length
  out : ∀ j, j ∉ is → st'[j]? = st[j]? ∧ ds'[j]? = ds[j]?
  inn : ∀ j, j ∈ is → ∀ l, ds'[j]? ≠ some (some (SV.own l))
theorem TgOk.refl (st : L2.St) (ds : DS) : TgOk [] st ds st ds := ⟨rfl, fun _ _ => ⟨rfl, rfl⟩, fun j h => by simp at h⟩
structure GM (X : Cx) (tg : Expr) (is : List Nat) (f : D → DS → Option DS) : Prop where
  pg : PG X tg fun v st H Q => ∃ d ds mu ds', RelS X.K X.mg X.pn H mu st ds ∧ Rp X.K H v d ∧ f d ds = some ds' ∧ ∀ st', RelS X.K X.mg X.pn H mu st' ds' → TgOk is st ds st' ds' → Q st' H
def tgName (i : Nat) : D → DS → Option DS := fun d ds => if i < ds.length then some (ds.set i (some (.val d))) else none
theorem PG.imp {tg : Expr} {t t' : TG} (h : PG X tg t) (i : ∀ v st H Q, t' v st H Q → t v st H Q) : PG X tg t' := ⟨fun pins s st H v u Q I r q => h.run pins s st H v u Q I r (i _ _ _ _ q)⟩
theorem RelS.set {K : PySem.W.Frag} {mg : Str → Option Value} {pn : List (Addr × Obj)} {H : Hp} {mu : List Addr} {st : L2.St} {ds : DS} (r : RelS K mg pn H mu st ds) (i : Nat) {v : V} {s : SV} (rv : RelSV K H mu v s) (n : ∀ x, s ≠ .exc x) : RelS K mg pn H mu (st.set i (some v)) (ds.set i (some s)) where
  len := by rw [List.length_set, List.length_set]; exact r.len
  at_ := fun j s' h hn => by
    by_cases e : i = j
    · subst e
      by_cases hi : i < ds.length
      · rw [List.getElem?_set_self hi] at h
        cases h
        exact ⟨v, List.getElem?_set_self (by rw [r.len]; exact hi), rv⟩
      · rw [List.getElem?_eq_none (by simpa using hi)] at h; cases h
    · rw [List.getElem?_set_ne e] at h
      rw [List.getElem?_set_ne e]
      exact r.at_ j s' h hn
  ex := fun j x h => by
    by_cases e : i = j
    · subst e
      by_cases hi : i < ds.length
      · rw [List.getElem?_set_self hi] at h
        cases h
        exact absurd rfl (n x)
      · rw [List.getElem?_eq_none (by simpa using hi)] at h; cases h
    · rw [List.getElem?_set_ne e] at h
      rw [List.getElem?_set_ne e]
      exact r.ex j x h
theorem gm_name {i : Nat} {x : Str} (hN : X.N.Nodup) (hi : X.N[i]? = some x) (hx : Loc X.env.scope x) (hf : X.fn x = true ∨ X.env.scope.names.lookup x = some .local := by first | exact .inl rfl | exact .inr rfl | assumption) : GM X (.Name x pos) [i] (tgName i) :=
  ⟨PG.imp (pg_name hN hi hx hf) fun v st H Q ⟨d, ds, mu, ds', rs, r, e, q⟩ => by
    unfold tgName at e
    split at e
    · rename_i hl
      cases e
      refine q _ (rs.set i r (fun _ z => by cases z)) ⟨by rw [List.length_set], fun j hj => ?_, fun j hj l => ?_⟩
      · have hj : i ≠ j := fun z => hj (by rw [z]; simp)
        exact ⟨List.getElem?_set_ne hj, List.getElem?_set_ne hj⟩
      · have hj : j = i := by simpa using hj
        subst hj
        rw [List.getElem?_set_self hl]
        intro z; cases z
    · cases e⟩
/-- several targets -/
structure GMs (X : Cx) (tgs : List Expr) (is : List Nat) (f : List D → DS → Option DS) : Prop where
  pgs : PGs X tgs fun vs st H Q => ∃ l ds mu ds', RelS X.K X.mg X.pn H mu st ds ∧ RpAll X.K H vs l ∧ f l ds = some ds' ∧ ∀ st', RelS X.K X.mg X.pn H mu st' ds' → TgOk is st ds st' ds' → Q st' H
def tgsNil : List D → DS → Option DS := fun l ds => match l with
  | [] => some ds
  | _ => none
def tgsCons (f : D → DS → Option DS) (g : List D → DS → Option DS) : List D → DS → Option DS := fun l ds => match l with
  | d :: r => match f d ds with
    | some ds' => g r ds'
    | none => none
  | [] => none
theorem PGs.imp {tg : List Expr} {t t' : TGs} (h : PGs X tg t) (i : ∀ v st H Q, t' v st H Q → t v st H Q) : PGs X tg t' := ⟨fun pins s st H v u Q I r q => h.run pins s st H v u Q I r (i _ _ _ _ q)⟩
theorem gms_nil : GMs X [] [] tgsNil := ⟨PGs.imp pgs_nil fun vs st H Q ⟨l, ds, mu, ds', rs, r, e, q⟩ => by
  cases r with
  | nil => cases e; exact ⟨rfl, q st rs (.refl _ _)⟩
  | cons _ _ => cases e⟩
theorem TgOk.trans {is js : List Nat} {st st1 st2 : L2.St} {ds ds1 ds2 : DS} (a : TgOk is st ds st1 ds1) (b : TgOk js st1 ds1 st2 ds2) : TgOk (is ++ js) st ds st2 ds2 :=
  ⟨b.len.trans a.len, fun j hj => by
    rw [List.mem_append, not_or] at hj
    obtain ⟨x1, x2⟩ := b.out j hj.2
    obtain ⟨y1, y2⟩ := a.out j hj.1
    exact ⟨x1.trans y1, x2.trans y2⟩, fun j hj l => by
    by_cases h : j ∈ js
    · exact b.inn j h l
    · rw [(b.out j h).2]
      rcases List.mem_append.mp hj with z | z
      · exact a.inn j z l
      · exact absurd z h⟩
theorem gms_cons {tg : Expr} {tgs : List Expr} {is js : List Nat} {f : D → DS → Option DS} {g : List D → DS → Option DS} (h1 : GM X tg is f) (h2 : GMs X tgs js g) (hs : (assignEach (tg :: tgs) X.env).map (·.2) = assign tg X.env :: (assignEach tgs X.env).map (·.2) := by rfl) : GMs X (tg :: tgs) (is ++ js) (tgsCons f g) :=
  ⟨PGs.imp (pgs_cons h1.pg h2.pgs hs) fun vs st H Q ⟨l, ds, mu, ds', rs, r, e, q⟩ => by
    cases r with
    | nil => cases e
    | @cons v vs d l r rr =>
      have e : (match f d ds with | some ds' => g l ds' | none => none) = some ds' := e
      cases e1 : f d ds with
      | none => rw [e1] at e; cases e
      | some ds1 =>
        rw [e1] at e
        exact ⟨v, vs, rfl, d, ds, mu, ds1, rs, r, e1, fun st1 rs1 t1 => ⟨l, ds1, mu, ds', rs1, rr, e, fun st2 rs2 t2 => q st2 rs2 (t1.trans t2)⟩⟩⟩
def tgTup (n : Nat) (g : List D → DS → Option DS) : D → DS → Option DS := fun d ds => match d with
  | .tuple l => if l.length = n then g l ds else none
  | _ => none
theorem gm_tup {tgs : List Expr} {is : List Nat} {k n : Nat} {g : List D → DS → Option DS} (hc : X.calm = true) (h : GMs X tgs is g) (hn : (assignEach tgs X.env).length = n := by rfl) (hst : (assignEach tgs X.env).findIdx? (·.1) = none := by rfl) : GM X (.Tuple tgs k pos) is (tgTup n g) :=
  ⟨PG.imp (pg_tup hc h.pgs hn hst) fun v st H Q ⟨d, ds, mu, ds', rs, r, e, q⟩ => by
    cases r with
    | @tup a xs l hs rr =>
      have e : (if l.length = n then g l ds else none) = some ds' := e
      split at e
      · rename_i hl
        exact ⟨a, xs, rfl, hs, by rw [rr.length]; exact hl, l, ds, mu, ds', rs, rr, e, q⟩
      · cases e
    | _ => cases e⟩
end
end U
/-! U5: comprehensions. -/
namespace U
open PySem PySem.Spec PyProof.Rows L2

abbrev NW : WX := fun _ _ _ _ => False
/-- the slots within a block -/
def noExc : Option SV → Option SV
  | some (.exc _) => none
  | s => s
def dwipe (ds : DS) : List Nat → DS
  | [] => ds.map noExc
  | v :: vs => (dwipe ds vs).set v none
theorem dwipe_len (ds : DS) : ∀ vs, (dwipe ds vs).length = ds.length
  | [] => by unfold dwipe; rw [List.length_map]
  | v :: vs => by unfold dwipe; rw [List.length_set, dwipe_len ds vs]
theorem wipe_none {st : L2.St} {i : Nat} : ∀ {vs : List Nat}, i ∉ vs → (wipe st vs)[i]? = st[i]?
  | [], _ => rfl
  | v :: vs, h => by
    rw [List.mem_cons, not_or] at h
    unfold wipe
    rw [List.getElem?_set_ne (fun e => h.1 e.symm), wipe_none h.2]
theorem dwipe_some {ds : DS} {i : Nat} {s : SV} : ∀ {vs : List Nat}, (dwipe ds vs)[i]? = some (some s) → ds[i]? = some (some s) ∧ i ∉ vs ∧ ∀ x, s ≠ .exc x
  | [], h => by
    unfold dwipe at h
    rw [List.getElem?_map, Option.map_eq_some_iff] at h
    obtain ⟨o, e, z⟩ := h
    cases o with
    | none => cases z
    | some q => cases q <;> first | (cases z; exact ⟨e, by simp, fun x w => by cases w⟩) | cases z
  | v :: vs, h => by
    unfold dwipe at h
    by_cases hi : v = i
    · subst hi
      by_cases hv : v < (dwipe ds vs).length
      · rw [List.getElem?_set_self hv] at h; cases h
      · rw [List.getElem?_eq_none (by simpa using hv)] at h; cases h
    · rw [List.getElem?_set_ne hi] at h
      obtain ⟨h1, h2, h3⟩ := dwipe_some h
      exact ⟨h1, by simp only [List.mem_cons, not_or]; exact ⟨fun e => hi e.symm, h2⟩, h3⟩
theorem RelS.blk {K : PySem.W.Frag} {mg : Str → Option Value} {pn : List (Addr × Obj)} {H : Hp} {mu : List Addr} {st : L2.St} {ds : DS} (r : RelS K mg pn H mu st ds) (vs : List Nat) : RelS K mg [] H mu (wipe st vs) (dwipe ds vs) where
  len := by rw [wipe_length, dwipe_len]; exact r.len
  at_ := fun i s h n => by
    obtain ⟨h1, h2, h3⟩ := dwipe_some h
    obtain ⟨v, e, rv⟩ := r.at_ i s h1 n
    exact ⟨v, by rw [wipe_none h2]; exact e, rv⟩
  ex := fun i x h => absurd rfl ((dwipe_some h).2.2 x)

/-- the result of a block may not be an exception -/
def Out.calm {α : Type} : Out α → Out α
  | .ok a h => .ok a h
  | _ => .bad
@[simp] theorem Out.calm_ok {α : Type} (a : α) (h : LH) : (Out.ok a h).calm = .ok a h := rfl
/-- items through a comprehension -/
def compL (tg : D → DS → Option DS) (tt : DS → LH → Out Bool) (fe : DS → LH → Out SV) (ds : DS) : List D → LH → Out (List D)
  | [], h => .ok [] h
  | x :: r, h => orBad (tg x ds) fun ds1 => (tt ds1 h).calm.bind fun b h1 => match b with
    | true => (fe ds1 h1).calm.bind fun y h2 => orBad (asVal y) fun d => (compL tg tt fe ds r h2).bind fun l h3 => .ok (d :: l) h3
    | false => compL tg tt fe ds r h1
def fLc (fi : DS → LH → Out (List D)) (tg : D → DS → Option DS) (tt : DS → LH → Out Bool) (fe : DS → LH → Out SV) (vs : List Nat) : DS → LH → Out (List D) := fun ds h =>
  (fi ds h).bind fun items h1 => iff (items.length ≤ sizeLine) (compL tg tt fe (dwipe ds vs) items h1)
theorem compL_exc {tg : D → DS → Option DS} {tt : DS → LH → Out Bool} {fe : DS → LH → Out SV} {ds : DS} : ∀ (l : List D) (h : LH) (x : XV) (h' : LH), compL tg tt fe ds l h ≠ .exc x h'
  | [], h, x, h' => by unfold compL; intro z; cases z
  | y :: r, h, x, h' => by
    unfold compL
    cases tg y ds with
    | none => intro z; cases z
    | some ds1 =>
      rw [orBad_some]
      cases tt ds1 h with
      | bad => intro z; cases z
      | exc _ _ => intro z; cases z
      | ok b h1 =>
        rw [Out.calm_ok, Out.bind_ok]
        cases b with
        | false => exact compL_exc r h1 x h'
        | true =>
          show ((fe ds1 h1).calm.bind _) ≠ _
          cases fe ds1 h1 with
          | bad => intro z; cases z
          | exc _ _ => intro z; cases z
          | ok y h2 =>
            rw [Out.calm_ok, Out.bind_ok]
            cases asVal y with
            | none => intro z; cases z
            | some d =>
              rw [orBad_some]
              cases e : compL tg tt fe ds r h2 with
              | bad => intro z; cases z
              | exc x1 h3 => exact absurd e (compL_exc r h2 x1 h3)
              | ok l h3 => intro z; cases z
/-- the tests of a comprehension -/
structure SM (X : Cx) (W : WX) (ifs : List Expr) (f : DS → LH → Out Bool) : Prop where
  pts : PTs X ifs (LT X W f)
theorem PTs.imp {X : Cx} {e : List Expr} {t t' : TT} (h : PTs X e t) (i : ∀ st H Q, t' st H Q → t st H Q) : PTs X e t' := ⟨fun pins s st H Q I q => h.run pins s st H Q I (i _ _ _ q)⟩
def tYes' : DS → LH → Out Bool := fun _ h => .ok true h
theorem sm_nil {X : Cx} {W : WX} : SM X W [] tYes' := ⟨PTs.imp pts_nil fun st H Q ⟨ds, mu, h, rs, rh, q⟩ => q.here rh rfl⟩
theorem sm_one {X : Cx} {W : WX} {c : Expr} {f : DS → LH → Out Bool} (h : TM X W c f) : SM X W [c] f := ⟨pts_one h.pt⟩

theorem RelH.setL {K : PySem.W.Frag} {H : Hp} {mu : List Addr} {h : LH} (r : RelH K H mu h) {p : Addr} {xs ys : List V} (n : p ∉ mu) (e : H p = some (.lst xs)) : RelH K (upd H p (.lst ys)) mu h :=
  ⟨r.len, r.nd, fun m a g h1 h2 => (r.at_ m a g h1 h2).keep (fun u q => by rw [upd_ne (fun z => n (by rw [← z]; exact List.mem_of_getElem? h1))]; exact q) fun _ _ q => q.mono
    ⟨fun b ys q => by rw [upd_ne (ne_of q e (by intro z; cases z))]; exact q, fun b o' u q => by rw [upd_ne (ne_of q e (by intro z; cases z))]; exact q⟩⟩
theorem mono_setL {H : Hp} {p : Addr} {xs ys : List V} (e : H p = some (.lst xs)) : Mono H (upd H p (.lst ys)) :=
  ⟨fun b zs q => by rw [upd_ne (ne_of q e (by intro z; cases z))]; exact q, fun b o' u q => by rw [upd_ne (ne_of q e (by intro z; cases z))]; exact q⟩
theorem Ext.setL {mu mu' : List Addr} {H H' : Hp} (x : Ext mu H mu' H') {p : Addr} {xs ys : List V} (n : H p = none) (e : H' p = some (.lst xs)) : Ext mu H mu' (upd H' p (.lst ys)) where
  mono := x.mono.trans (mono_setL e)
  keep := fun b u q hb => by rw [upd_ne (ne_of_none q n)]; exact x.keep b u q hb
  more := x.more
  live := fun b q => by
    by_cases z : b = p
    · subst z; rw [upd_same]; simp
    · rw [upd_ne z]; exact x.live b q

section
variable {X : Cx} {W : WX} {elt tg iter : Expr} {ifs : List Expr} {scope : Scope} {own : List (Str × Nat)} {pos : Pos} {fi : DS → LH → Out (List D)} {ft : D → DS → Option DS} {tt : DS → LH → Out Bool} {fe : DS → LH → Out SV} {is : List Nat}
theorem wipe_tg {st st' : L2.St} {ds ds' : DS} {is : List Nat} : ∀ {vs : List Nat}, TgOk is st ds st' ds' → (∀ i ∈ is, i ∈ vs) → wipe st' vs = wipe st vs := fun {vs} t h => by
  apply List.ext_getElem?
  intro i
  by_cases hi : i ∈ vs
  · have aux : ∀ (s : L2.St) (vs : List Nat), i ∈ vs → (wipe s vs)[i]? = if i < s.length then some none else none := by
      intro s vs
      induction vs with
      | nil => intro h; simp at h
      | cons v vs ih =>
        intro h
        unfold wipe
        by_cases e : v = i
        · subst e
          by_cases hl : v < s.length
          · rw [if_pos hl, List.getElem?_set_self (by rw [wipe_length]; exact hl)]
          · rw [if_neg hl, List.getElem?_eq_none (by rw [List.length_set, wipe_length]; omega)]
        · rw [List.getElem?_set_ne e]
          rcases List.mem_cons.mp h with z | z
          · exact absurd z.symm e
          · exact ih z
    rw [aux _ _ hi, aux _ _ hi, t.len]
  · rw [wipe_none hi, wipe_none hi]
    exact (t.out i (fun z => hi (h i z))).1
theorem wipe_wipe (st : L2.St) (vs : List Nat) : wipe (wipe st vs) vs = wipe st vs := by
  apply List.ext_getElem?
  intro i
  by_cases hi : i ∈ vs
  · have aux : ∀ (s : L2.St) (vs : List Nat), i ∈ vs → (wipe s vs)[i]? = if i < s.length then some none else none := by
      intro s vs
      induction vs with
      | nil => intro h; simp at h
      | cons v vs ih =>
        intro h
        unfold wipe
        by_cases e : v = i
        · subst e
          by_cases hl : v < s.length
          · rw [if_pos hl, List.getElem?_set_self (by rw [wipe_length]; exact hl)]
          · rw [if_neg hl, List.getElem?_eq_none (by rw [List.length_set, wipe_length]; omega)]
        · rw [List.getElem?_set_ne e]
          rcases List.mem_cons.mp h with z | z
          · exact absurd z.symm e
          · exact ih z
    rw [aux _ _ hi, aux _ _ hi, wipe_length]
  · rw [wipe_none hi, wipe_none hi]
theorem LF.comp {fi : DS → LH → Out (List D)} {vs : List Nat} (hsub : ∀ i ∈ is, i ∈ vs)
    {wi : TI} {g : TG} {t : TT} {te : TE}
    (hwi : ∀ st H R, (∃ ds mu h, RelS X.K X.mg X.pn H mu st ds ∧ RelH X.K H mu h ∧ After X.K X.mg (fun c dd H' => W c dd st H') (fun H' mu' J items => Serves X.K J H' items) mu H (fi ds h) R) → wi st H R)
    (hg : ∀ v st H Q, (∃ d ds mu ds', RelS X.K X.mg [] H mu st ds ∧ Rp X.K H v d ∧ ft d ds = some ds' ∧ ∀ st', RelS X.K X.mg [] H mu st' ds' → TgOk is st ds st' ds' → Q st' H) → g v st H Q)
    (ht : ∀ st H Q, (∃ ds mu h, RelS X.K X.mg [] H mu st ds ∧ RelH X.K H mu h ∧ After X.K X.mg (fun c dd H' => False) (fun _ _ (v : Bool) b => v = b) mu H (tt ds h) Q) → t st H Q)
    (he : ∀ st H Q, (∃ ds mu h, RelS X.K X.mg [] H mu st ds ∧ RelH X.K H mu h ∧ After X.K X.mg (fun c dd H' => False) (rSV X.K) mu H (fe ds h) Q) → te st H Q) :
    ∀ st H Q, LF X W (fLc fi ft tt fe vs) st H Q → tLc wi g t te vs st H Q := by
  rintro st H Q ⟨ds, mu, h, rs, rh, q⟩
  have q : After X.K X.mg (fun c dd H' => W c dd st H') (fun H' mu' v l => ∃ a xs, v = V.ref a ∧ H a = none ∧ a ∉ mu' ∧ H' a = some (.lst xs) ∧ RpAll X.K H' xs l) mu H ((fi ds h).bind fun items h1 => iff (items.length ≤ sizeLine) (compL ft tt fe (dwipe ds vs) items h1)) Q := q
  refine hwi st H _ ⟨ds, mu, h, rs, rh, After.step q fun items h1 J H1 mu1 eo e1 rh1 sv q1 => ?_⟩
  rw [eo] at q
  have q : After X.K X.mg (fun c dd H' => W c dd st H') (fun H' mu' v l => ∃ a xs, v = V.ref a ∧ H a = none ∧ a ∉ mu' ∧ H' a = some (.lst xs) ∧ RpAll X.K H' xs l) mu H (iff (items.length ≤ sizeLine) (compL ft tt fe (dwipe ds vs) items h1)) Q := q
  obtain ⟨hz, q⟩ := q.iff
  intro D0 hD
  have hD0 : H D0 = none := by
    cases z : H D0 with
    | none => rfl
    | some u => exact absurd hD (e1.live D0 (by rw [z]; simp))
  cases eq : compL ft tt fe (dwipe ds vs) items h1 with
  | bad => rw [eq] at q; exact q.elim
  | exc x h2 => exact absurd eq (compL_exc _ _ _ _)
  | ok l hf =>
    rw [eq] at q
    refine ⟨fun i m H' => m = items.length - i ∧ i ≤ items.length ∧ ∃ mu' hh xs acc lr, Ext mu1 H1 mu' H' ∧ RelH X.K H' mu' hh ∧ H' D0 = some (.lst xs) ∧ D0 ∉ mu' ∧ RpAll X.K H' xs acc ∧ acc.length ≤ i ∧ compL ft tt fe (dwipe ds vs) (items.drop i) hh = .ok lr hf ∧ acc ++ lr = l,
      ⟨items.length, by simp, by simp, mu1, h1, [], [], l, ext_new hD, rh1.new hD, upd_same, rh1.notin hD, .nil, by simp, by rw [List.drop_zero]; exact eq, rfl⟩, ?_⟩
    rintro i m H2 ⟨rfl, hi, mu2, hh, xs, acc, lr, e2, rh2, eD, nD, ra, la, ec, el⟩
    obtain ⟨sgo, sst⟩ := sv i H2 e2.mono
    by_cases hlt : i < items.length
    · right
      have hx : items[i]? = some items[i] := List.getElem?_eq_getElem hlt
      obtain ⟨go, yl⟩ := sgo _ hx
      refine ⟨go, fun H' => ∃ mu' hh xs acc lr, Ext mu1 H1 mu' H' ∧ RelH X.K H' mu' hh ∧ H' D0 = some (.lst xs) ∧ D0 ∉ mu' ∧ RpAll X.K H' xs acc ∧ acc.length ≤ i + 1 ∧ compL ft tt fe (dwipe ds vs) (items.drop (i + 1)) hh = .ok lr hf ∧ acc ++ lr = l,
        fun H' hn => ⟨items.length - (i + 1), by omega, rfl, hlt, hn⟩, fun v H3 hy => ?_⟩
      obtain ⟨e3, rv⟩ := yl v H3 hy
      rw [List.drop_eq_getElem_cons hlt] at ec
      unfold compL at ec
      cases etg : ft items[i] (dwipe ds vs) with
      | none => rw [etg] at ec; cases ec
      | some ds1 =>
        rw [etg, orBad_some] at ec
        -- the item's own heap
        have e3' : Ext mu2 H2 mu2 H3 := ⟨e3.mono, fun b u q _ => e3.keep b u q (by simp), ⟨[], by simp, by simp⟩, e3.live⟩
        have rh3 : RelH X.K H3 mu2 hh := rh2.same e3' fun a _ u q => e3.keep a u q (by simp)
        have e13 := e2.trans e3'
        have eD3 : H3 D0 = some (.lst xs) := e3.keep _ _ eD (by simp)
        have rb : RelS X.K X.mg [] H3 mu2 (wipe st vs) (dwipe ds vs) := ((rs.ext e1).ext e13).blk vs
        refine hg v (wipe st vs) H3 _ ⟨items[i], dwipe ds vs, mu2, ds1, rb, rv, etg, fun st' rs' tk => ⟨by rw [wipe_tg tk hsub, wipe_wipe], ?_⟩⟩
        refine ht st' H3 _ ⟨ds1, mu2, hh, rs', rh3, ?_⟩
        cases ett : tt ds1 hh with
        | bad => rw [ett] at ec; cases ec
        | exc _ _ => rw [ett] at ec; cases ec
        | ok b h4 =>
          rw [ett, Out.calm_ok, Out.bind_ok] at ec
          intro b' H4 mu4 e4 rh4 eb
          subst eb
          have e14 := e13.trans e4
          have eD4 := e4.keep _ _ eD3 nD
          have nD4 := e4.notin eD3 nD
          have ra4 := (ra.mono e3'.mono).mono e4.mono
          cases b' with
          | false => exact iteF ⟨mu4, h4, xs, acc, lr, e14, rh4, eD4, nD4, ra4, by omega, ec, el⟩
          | true =>
            refine iteT (he st' H4 _ ⟨ds1, mu4, h4, rs'.ext e4, rh4, ?_⟩)
            have ec : ((fe ds1 h4).calm.bind fun y h2 => orBad (asVal y) fun d => (compL ft tt fe (dwipe ds vs) (items.drop (i + 1)) h2).bind fun l h3 => .ok (d :: l) h3) = .ok lr hf := ec
            cases efe : fe ds1 h4 with
            | bad => rw [efe] at ec; cases ec
            | exc _ _ => rw [efe] at ec; cases ec
            | ok y h5 =>
              rw [efe, Out.calm_ok, Out.bind_ok] at ec
              cases ev : asVal y with
              | none => rw [ev] at ec; cases ec
              | some d =>
                rw [ev, orBad_some] at ec
                have ey := asVal_of ev
                subst ey
                cases er : compL ft tt fe (dwipe ds vs) (items.drop (i + 1)) h5 with
                | bad => rw [er] at ec; cases ec
                | exc _ _ => rw [er] at ec; cases ec
                | ok l2 h6 =>
                  rw [er, Out.bind_ok] at ec
                  cases ec
                  intro w H5 mu5 e5 rh5 rw5
                  have eD5 := e5.keep _ _ eD4 nD4
                  have nD5 := e5.notin eD4 nD4
                  have ra5 := ra4.mono e5.mono
                  refine ⟨xs, eD5, by rw [ra5.length]; omega, mu5, h5, xs ++ [w], acc ++ [d], l2, (e14.trans e5).setL hD eD5, rh5.setL nD5 eD5, upd_same, nD5, ?_, by rw [List.length_append]; simp; omega, er, by rw [List.append_assoc]; exact el⟩
                  exact (ra5.append (.cons rw5 .nil)).mono (mono_setL eD5)
    · left
      have ei : i = items.length := by omega
      subst ei
      refine ⟨sst (Nat.le_refl _), ?_⟩
      rw [List.drop_length] at ec
      unfold compL at ec
      cases ec
      rw [List.append_nil] at el
      subst el
      exact q _ H2 mu2 (e1.trans e2) rh2 ⟨D0, xs, rfl, hD0, nD, eD, ra⟩
theorem fm_lc (hc : X.calm = true) (hN : X.N.Nodup) (hi : IM X W tg iter fi) (ok : BlkOk X.N X.env.scope scope own)
    (hg : ∀ (s : Shared) (H : Hp) (C : Addr) (cl : List (Str × Addr)) (fp : List Addr), GM (X.blk s H scope (compEnvC scope cl C X.env) fp) tg is ft) (ht : ∀ (s : Shared) (H : Hp) (C : Addr) (cl : List (Str × Addr)) (fp : List Addr), SM (X.blk s H scope (compEnvC scope cl C X.env) fp) NW ifs tt)
    (he : ∀ (s : Shared) (H : Hp) (C : Addr) (cl : List (Str × Addr)) (fp : List Addr), EM (X.blk s H scope (compEnvC scope cl C X.env) fp) NW elt fe) (hsub : ∀ i ∈ is, i ∈ own.map (·.2)) (hs : ∀ x, foldedSetIterable iter X.env x = pure x := by intro _; rfl) :
    FM X W (.ListComp elt [⟨tg, iter, ifs, 0⟩] scope pos) (fLc fi ft tt fe (own.map (·.2))) :=
  ⟨PE.imp (pe_lc hc hN hi.pi ok (fun s H C cl fp => (hg s H C cl fp).pg) (fun s H C cl fp => (ht s H C cl fp).pts) (fun s H C cl fp => (he s H C cl fp).pe) hs)
    (LF.comp hsub (fun _ _ _ q => q) (fun _ _ _ _ q => q) (fun _ _ _ q => q) fun _ _ _ q => q)⟩
end
end U
/-! U6: what a def promises, calls of defs. -/
namespace U
open PySem PySem.Spec PyProof.Rows L2

/-- a def over data: its arguments, the logical heap -/
abbrev RF := List SV → LH → Out SV
/-- what may be handed over -/
def Hand : SV → Prop
  | .val _ => True
  | .ref _ => True
  | .scr _ => True
  | _ => False
def handB : SV → Bool
  | .val _ => true
  | .ref _ => true
  | .scr _ => true
  | _ => false
/-- an answer: a list of one's own is new -/
def RelR (K : PySem.W.Frag) (H0 H : Hp) (mu : List Addr) (v : V) : SV → Prop
  | .own ds => ∃ a xs, v = .ref a ∧ H0 a = none ∧ a ∉ mu ∧ H a = some (.lst xs) ∧ RpAll K H xs ds
  | s => RelSV K H mu v s
def spOf (K : PySem.W.Frag) (mg : Str → Option Value) (n : Nat) (run : RF) : Sp := fun vs H Q E => vs.length = n ∧ ∃ ss mu h, All2 (RelSV K H mu) vs ss ∧ (∀ s ∈ ss, Hand s) ∧ RelH K H mu h ∧
  After K mg E (fun H' mu' v s => RelR K H H' mu' v s) mu H (run ss h) Q
/-- a def that works on data alone: its heap is its own -/
def pureRun (run : RF) (xs : List SV) : Out SV := run xs []
@[simp] def isVal : SV → Bool
  | .val _ => true
  | .scr _ => true
  | _ => false
/-- a call on the data's own heap -/
def gPure (run : RF) (xs : List SV) (h : LH) : Out SV := iff (xs.all isVal = true) (match run xs [] with
  | .ok (.val d) _ => .ok (.val d) h
  | .exc x _ => .exc x h
  | _ => .bad)
/-- .. whose answer is a list of one's own -/
def gPureF (run : RF) (xs : List SV) (h : LH) : Out (List D) := iff (xs.all isVal = true) (match run xs [] with
  | .ok (.own d) _ => .ok d h
  | .exc x _ => .exc x h
  | _ => .bad)
/-- a call on the whole heap -/
def gCall (run : RF) (xs : List SV) (h : LH) : Out SV := iff (xs.all handB = true) (match run xs h with
  | .ok (.own _) _ => .bad
  | o => o)
theorem RelSV.nomu {K : PySem.W.Frag} {H : Hp} {mu mu' : List Addr} {v : V} {s : SV} (h : isVal s = true) (r : RelSV K H mu v s) : RelSV K H mu' v s := by
  cases s <;> first | exact r | cases h
theorem isVal_hand {s : SV} (h : isVal s = true) : Hand s := by cases s <;> first | trivial | cases h
theorem handB_hand {s : SV} (h : handB s = true) : Hand s := by cases s <;> first | trivial | cases h
theorem all2_nomu {K : PySem.W.Frag} {H : Hp} {mu mu' : List Addr} : ∀ {vs : List V} {ss : List SV}, ss.all isVal = true → All2 (RelSV K H mu) vs ss → All2 (RelSV K H mu') vs ss
  | _, _, _, .nil => .nil
  | _, _, h, .cons r t => by
    rw [List.all_cons, Bool.and_eq_true] at h
    exact .cons (r.nomu h.1) (all2_nomu h.2 t)
theorem relH_nil (K : PySem.W.Frag) (H : Hp) : RelH K H [] [] := ⟨rfl, List.nodup_nil, fun n a o h => by simp at h⟩
/-- behind a call that had no logical heap, ours stands -/
theorem ext_pure {K : PySem.W.Frag} {mu nu : List Addr} {H H' : Hp} {h : LH} (e : Ext [] H nu H') (rh : RelH K H mu h) : Ext mu H mu H' ∧ RelH K H' mu h := by
  have e' : Ext mu H mu H' := ⟨e.mono, fun b u q _ => e.keep b u q (by simp), ⟨[], by simp, by simp⟩, e.live⟩
  exact ⟨e', rh.same e' fun a _ u q => e.keep a u q (by simp)⟩
section
variable {X : Cx} {W : WX} {a b c e o : Expr} {fa fb fo : DS → LH → Out SV} {pos p apos : Pos} {x m : Str} {es : List Expr} {fs : DS → LH → Out (List SV)} {k n : Nat} {f C : Addr} {fd : FuncData} {ps : List Str} {run : RF}

theorem sp_call (K : PySem.W.Frag) (mg : Str → Option Value) {E : XK} {mu : List Addr} {h : LH} {H : Hp} {vs : List V} {ss : List SV} {Q : VK} (hn : vs.length = n) (rh : RelH K H mu h) (rr : All2 (RelSV K H mu) vs ss) (q : After K mg E (rSV K) mu H (gCall run ss h) Q) : spOf K mg n run vs H Q E := by
  obtain ⟨ha, q⟩ := q.iff
  refine ⟨hn, ss, mu, h, rr, fun s hs => handB_hand (List.all_eq_true.mp ha s hs), rh, ?_⟩
  cases eq : run ss h with
  | bad => rw [eq] at q; exact q
  | exc y h1 => rw [eq] at q; exact q
  | ok s h1 =>
    cases s with
    | own ds => rw [eq] at q; exact q.elim
    | _ => rw [eq] at q; exact q
theorem sp_pure (K : PySem.W.Frag) (mg : Str → Option Value) {E : XK} {mu : List Addr} {h : LH} {H : Hp} {vs : List V} {ss : List SV} {Q : VK} (hn : vs.length = n) (rh : RelH K H mu h) (rr : All2 (RelSV K H mu) vs ss) (q : After K mg E (rSV K) mu H (gPure run ss h) Q) : spOf K mg n run vs H Q E := by
  obtain ⟨ha, q⟩ := q.iff
  refine ⟨hn, ss, [], [], all2_nomu ha rr, fun s hs => isVal_hand (List.all_eq_true.mp ha s hs), relH_nil K H, ?_⟩
  cases eq : run ss [] with
  | bad => rw [eq] at q; exact q
  | exc y h1 =>
    rw [eq] at q
    intro c dd H' mu' e1 _ rx
    obtain ⟨e2, rh2⟩ := ext_pure e1 rh
    exact q c dd H' mu e2 rh2 rx
  | ok s h1 =>
    rw [eq] at q
    cases s with
    | val d =>
      intro v H' mu' e1 _ r
      obtain ⟨e2, rh2⟩ := ext_pure e1 rh
      exact q v H' mu e2 rh2 r
    | _ => exact q.elim
theorem all2_len {α β : Type} {R : α → β → Prop} {as : List α} {bs : List β} (h : All2 R as bs) : as.length = bs.length := h.length
/-- the number of the arguments is right -/
def nArgs (n : Nat) (g : List SV → LH → Out SV) : List SV → LH → Out SV := fun xs h => iff (xs.length = n) (g xs h)
theorem em_call (F : FnOk X.prog X.w X.K X.mg X.base (L2.CX X.prog X.w) k f fd ps (spOf X.K X.mg n run)) (hr : Room k X.A) (hg : Gl X x) (hm : X.mg x = some (.ref f)) (hk : PySem.W.keepIn X.K (.ref f) = true) (hb : Binds X.K fd ps []) (tk : Takes X W)
    (ha : AM X W (e :: es) fs) (hdb : (x == ("__debug__" : Str)) = false := by decide) (he : starEach (e :: es) X.env = (false, eval e X.env) :: starEach es X.env := by rfl) (hpl : (backTo pos (starEach es X.env)).any (·.1) = false := by rfl) :
    EM X W (.Call (.Name x p) (e :: es) [] pos) (eArgs (nArgs n (gCall run)) fs) :=
  ⟨PE.imp (pe_callS F hr hg hm hk hb (fun st => passAt tk st) ha.pa hdb he hpl) fun st H Q ⟨ds, mu, h, rs, rh, q⟩ => ⟨ds, mu, h, rs, rh, After.step q fun xs h1 vs H1 mu1 _ e1 rh1 r1 q1 => by
    obtain ⟨hn, q2⟩ := q1.iff
    exact sp_call X.K X.mg (by rw [r1.length]; exact hn) rh1 r1 q2⟩⟩
theorem em_callP (F : FnOk X.prog X.w X.K X.mg X.base (L2.CX X.prog X.w) k f fd ps (spOf X.K X.mg n run)) (hr : Room k X.A) (hg : Gl X x) (hm : X.mg x = some (.ref f)) (hk : PySem.W.keepIn X.K (.ref f) = true) (hb : Binds X.K fd ps []) (tk : Takes X W)
    (ha : AM X W (e :: es) fs) (hdb : (x == ("__debug__" : Str)) = false := by decide) (he : starEach (e :: es) X.env = (false, eval e X.env) :: starEach es X.env := by rfl) (hpl : (backTo pos (starEach es X.env)).any (·.1) = false := by rfl) :
    EM X W (.Call (.Name x p) (e :: es) [] pos) (eArgs (nArgs n (gPure run)) fs) :=
  ⟨PE.imp (pe_callS F hr hg hm hk hb (fun st => passAt tk st) ha.pa hdb he hpl) fun st H Q ⟨ds, mu, h, rs, rh, q⟩ => ⟨ds, mu, h, rs, rh, After.step q fun xs h1 vs H1 mu1 _ e1 rh1 r1 q1 => by
    obtain ⟨hn, q2⟩ := q1.iff
    exact sp_pure X.K X.mg (by rw [r1.length]; exact hn) rh1 r1 q2⟩⟩
theorem takes_nw : Takes X NW := takes0
/-- f() -/
def tCallS0 (sp : Sp) (E : L2.St → XK) : TE := fun st H Q => sp [] H Q (E st)
theorem pe_call0S {sp : Sp} {E : L2.St → XK} {CX : CXT} (F : FnOk X.prog X.w X.K X.mg X.base CX k f fd ps sp) (hr : Room k X.A) (hg : Gl X x) (hm : X.mg x = some (.ref f)) (hk : PySem.W.keepIn X.K (.ref f) = true) (hb : Binds X.K fd ps []) (hx : ∀ st, PassesAt CX X st (E st))
    (hdb : (x == ("__debug__" : Str)) = false := by decide) : PE X (.Call (.Name x p) [] [] pos) (tCallS0 sp E) := by
  refine ⟨fun pins s st H Q I h => ?_⟩
  refine wpAny_Call_Name_kw (ld_glob I hg hm ?_ hdb)
  exact PySem.W.callWith_K0 I.kIn hk (run_fnS (us := []) F hr hb (hx st) I .nil h)
theorem em_call0P (F : FnOk X.prog X.w X.K X.mg X.base (L2.CX X.prog X.w) k f fd ps (spOf X.K X.mg 0 run)) (hr : Room k X.A) (hg : Gl X x) (hm : X.mg x = some (.ref f)) (hk : PySem.W.keepIn X.K (.ref f) = true) (hb : Binds X.K fd ps []) (tk : Takes X W)
    (hdb : (x == ("__debug__" : Str)) = false := by decide) : EM X W (.Call (.Name x p) [] [] pos) (fun _ h => gPure run [] h) :=
  ⟨PE.imp (pe_call0S F hr hg hm hk hb (fun st => passAt tk st) hdb) fun st H Q ⟨ds, mu, h, rs, rh, q⟩ => sp_pure X.K X.mg rfl rh .nil q⟩
end
end U
/-! U7: statements. -/
namespace U
open PySem PySem.Spec PyProof.Rows L2

structure RelF (X : Cx) (mu0 : List Addr) (st : L2.St) (ds : DS) (H : Hp) (mu : List Addr) (h : LH) : Prop where
  rs : RelS X.K X.mg X.pn H mu st ds
  rh : RelH X.K H mu h
  ext : Ext mu0 X.H_0 mu H
  fresh : ∀ (i : Nat) (l : List D) (a : Addr), ds[i]? = some (some (.own l)) → st[i]? = some (some (.ref a)) → X.H_0 a = none
  apart : ∀ (i j : Nat) (l l' : List D) (a : Addr), i ≠ j → ds[i]? = some (some (.own l)) → ds[j]? = some (some (.own l')) → st[i]? = some (some (.ref a)) → st[j]? ≠ some (some (.ref a))
theorem RelF.step {X : Cx} {mu0 : List Addr} {st : L2.St} {ds : DS} {H H' : Hp} {mu mu' : List Addr} {h h' : LH} (r : RelF X mu0 st ds H mu h) (e : Ext mu H mu' H') (rh : RelH X.K H' mu' h') : RelF X mu0 st ds H' mu' h' :=
  ⟨r.rs.ext e, rh, r.ext.trans e, r.fresh, r.apart⟩

inductive SO where
  | nx (ds : DS) (h : LH) | bk (ds : DS) (h : LH) | ct (ds : DS) (h : LH) | rt (s : SV) (h : LH) | exc (x : XV) (ds : DS) (h : LH) | bad
abbrev SF := DS → LH → SO
/-- an expression's result, then a statement's -/
def Out.so {α : Type} (o : Out α) (ds : DS) (k : α → LH → SO) : SO := match o with
  | .ok a h => k a h
  | .exc x h => .exc x ds h
  | .bad => .bad
@[simp] theorem Out.so_ok {α : Type} (a : α) (h : LH) (ds : DS) (k : α → LH → SO) : (Out.ok a h).so ds k = k a h := rfl
@[simp] theorem Out.so_exc {α : Type} (x : XV) (h : LH) (ds : DS) (k : α → LH → SO) : (Out.exc x h : Out α).so ds k = .exc x ds h := rfl
@[simp] theorem Out.so_bad {α : Type} (ds : DS) (k : α → LH → SO) : (Out.bad : Out α).so ds k = .bad := rfl
def orBadS {α : Type} (o : Option α) (k : α → SO) : SO := match o with
  | some a => k a
  | none => .bad
@[simp] theorem orBadS_some {α : Type} (a : α) (k : α → SO) : orBadS (some a) k = k a := rfl
@[simp] theorem orBadS_none {α : Type} (k : α → SO) : orBadS none k = .bad := rfl
def iffS (c : Prop) [Decidable c] (o : SO) : SO := if c then o else .bad
theorem iffS_pos {c : Prop} [Decidable c] (h : c) (o : SO) : iffS c o = o := if_pos h

section
variable {X : Cx} {W : WX} {mu0 : List Addr}
def AfterS (X : Cx) (W : WX) (mu0 : List Addr) (H : Hp) (o : SO) (E : Ends) : Prop := match o with
  | .nx ds h => ∀ st' H' mu', RelF X mu0 st' ds H' mu' h → Mono H H' → E.nx st' H'
  | .bk ds h => ∀ st' H' mu', RelF X mu0 st' ds H' mu' h → Mono H H' → E.bk st' H'
  | .ct ds h => ∀ st' H' mu', RelF X mu0 st' ds H' mu' h → Mono H H' → E.ct st' H'
  | .rt s h => ∀ v H' mu', Ext mu0 X.H_0 mu' H' → RelH X.K H' mu' h → RelR X.K X.H_0 H' mu' v s → E.rt v H'
  | .exc x ds h => ∀ c dd st' H' mu', RelF X mu0 st' ds H' mu' h → Mono H H' → RelX X.K X.mg H' c dd x → W c dd st' H'
  | .bad => False
theorem AfterS.mono {H H1 : Hp} {o : SO} {E : Ends} (h : AfterS X W mu0 H o E) (m : Mono H H1) : AfterS X W mu0 H1 o E := by
  cases o with
  | nx ds hh => exact fun st' H' mu' r m' => h st' H' mu' r (m.trans m')
  | bk ds hh => exact fun st' H' mu' r m' => h st' H' mu' r (m.trans m')
  | ct ds hh => exact fun st' H' mu' r m' => h st' H' mu' r (m.trans m')
  | rt s hh => exact h
  | exc x ds hh => exact fun c dd st' H' mu' r m' => h c dd st' H' mu' r (m.trans m')
  | bad => exact h
theorem AfterS.orBad {α : Type} {H : Hp} {o : Option α} {k : α → SO} {E : Ends} (q : AfterS X W mu0 H (orBadS o k) E) : ∃ a, o = some a ∧ AfterS X W mu0 H (k a) E := by
  cases o with
  | none => exact q.elim
  | some a => exact ⟨a, rfl, q⟩
theorem AfterS.iff {H : Hp} {c : Prop} [Decidable c] {o : SO} {E : Ends} (q : AfterS X W mu0 H (iffS c o) E) : c ∧ AfterS X W mu0 H o E := by
  unfold iffS at q
  by_cases h : c
  · rw [if_pos h] at q; exact ⟨h, q⟩
  · rw [if_neg h] at q; exact q.elim
def LS (X : Cx) (W : WX) (mu0 : List Addr) (f : SF) : TS := fun E st H => ∃ ds mu h, RelF X mu0 st ds H mu h ∧ AfterS X W mu0 H (f ds h) E
structure PM (X : Cx) (W : WX) (mu0 : List Addr) (s : Stmt) (f : SF) : Prop where
  ps : PS X s (LS X W mu0 f)
structure BM (X : Cx) (W : WX) (mu0 : List Addr) (s : List Stmt) (f : SF) : Prop where
  pss : PSs X s (LS X W mu0 f)
/-- an expression within a statement -/
theorem LS.expr {α γ : Type} {R : Hp → List Addr → γ → α → Prop} {st : L2.St} {ds : DS} {H : Hp} {mu : List Addr} {h : LH} {o : Out α} {k : α → LH → SO} {E : Ends} {P : γ → Hp → Prop} (r : RelF X mu0 st ds H mu h) (q : AfterS X W mu0 H (o.so ds k) E)
    (f : ∀ a h1 v H1 mu1, o = .ok a h1 → Ext mu H mu1 H1 → RelF X mu0 st ds H1 mu1 h1 → R H1 mu1 v a → AfterS X W mu0 H1 (k a h1) E → P v H1) : After X.K X.mg (fun c dd H' => W c dd st H') R mu H o P := by
  cases o with
  | bad => exact q
  | exc x h' => exact fun c dd H' mu' e rh rx => q c dd st H' mu' (r.step e rh) e.mono rx
  | ok a h1 => exact fun v H1 mu1 e rh rr => f a h1 v H1 mu1 rfl e (r.step e rh) rr (AfterS.mono (show AfterS X W mu0 H (k a h1) E from q) e.mono)
variable {s : Stmt} {rest : List Stmt} {f g : SF} {a b e : Expr} {fe fa : DS → LH → Out SV} {ft : DS → LH → Out Bool} {pos pos' : Pos} {i : Nat} {x : Str}

/-! ### blocks -/
def sNil : SF := fun ds h => .nx ds h
def sSeq (f g : SF) : SF := fun ds h => match f ds h with
  | .nx ds' h' => g ds' h'
  | o => o
theorem bm_nil : BM X W mu0 [] sNil := ⟨PSs.imp pss_nil fun E st H ⟨ds, mu, h, r, q⟩ => q st H mu r (.refl H)⟩
theorem bm_one (h : PM X W mu0 s f) : BM X W mu0 [s] f := ⟨pss_one h.ps⟩
theorem bm_cons (h1 : PM X W mu0 s f) (h2 : BM X W mu0 rest g) : BM X W mu0 (s :: rest) (sSeq f g) := ⟨PSs.imp (pss_cons h1.ps h2.pss) fun E st H ⟨ds, mu, h, r, q⟩ => ⟨ds, mu, h, r, by
  unfold sSeq at q
  cases eq : f ds h with
  | nx ds' h' =>
    rw [eq] at q
    exact fun st' H' mu' r' m => ⟨ds', mu', h', r', AfterS.mono (show AfterS X W mu0 H (g ds' h') E from q) m⟩
  | _ => rw [eq] at q; exact q⟩⟩
theorem pm_pass : PM X W mu0 (.Pass pos) sNil := ⟨PS.imp ps_pass fun E st H ⟨ds, mu, h, r, q⟩ => q st H mu r (.refl H)⟩
theorem pm_doc {x j} : PM X W mu0 (.Expr (.Constant (.str x) j pos) pos') sNil := ⟨PS.imp ps_doc fun E st H ⟨ds, mu, h, r, q⟩ => q st H mu r (.refl H)⟩
theorem pm_break : PM X W mu0 (.Break pos) (fun ds h => .bk ds h) := ⟨PS.imp ps_break fun E st H ⟨ds, mu, h, r, q⟩ => q st H mu r (.refl H)⟩
theorem pm_cont : PM X W mu0 (.Continue pos) (fun ds h => .ct ds h) := ⟨PS.imp ps_continue fun E st H ⟨ds, mu, h, r, q⟩ => q st H mu r (.refl H)⟩
/-- e; -/
def sExpr (fe : DS → LH → Out SV) : SF := fun ds h => (fe ds h).so ds fun _ h1 => .nx ds h1
theorem pm_expr (he : EM X W e fe) (hs : swapsWith e none pos.line X.env = pure false := by rfl) : PM X W mu0 (.Expr e pos) (sExpr fe) := ⟨PS.imp (ps_expr he.pe hs) fun E st H ⟨ds, mu, h, r, q⟩ =>
  ⟨ds, mu, h, r.rs, r.rh, LS.expr r q fun a h1 v H1 mu1 _ e1 r1 _ q1 => q1 st H1 mu1 r1 (.refl _)⟩⟩
/-- return e -/
def plainS : SV → Bool
  | .val _ => true
  | .ref _ => true
  | _ => false
def sRet (fe : DS → LH → Out SV) : SF := fun ds h => (fe ds h).so ds fun s h1 => iffS (plainS s = true) (.rt s h1)
theorem relR_of {K : PySem.W.Frag} {H0 H : Hp} {mu : List Addr} {v : V} {s : SV} (p : plainS s = true) (r : RelSV K H mu v s) : RelR K H0 H mu v s := by
  cases s <;> first | exact r | cases p
theorem pm_ret (he : EM X W e fe) : PM X W mu0 (.Return (some e) pos) (sRet fe) := ⟨PS.imp (ps_ret he.pe) fun E st H ⟨ds, mu, h, r, q⟩ =>
  ⟨ds, mu, h, r.rs, r.rh, LS.expr r q fun s h1 v H1 mu1 _ e1 r1 rv q1 => by
    obtain ⟨p, q2⟩ := q1.iff
    exact q2 v H1 mu1 r1.ext r1.rh (relR_of p rv)⟩⟩
/-- .. a new list as one's own -/
def sRetF (fl : DS → LH → Out (List D)) : SF := fun ds h => (fl ds h).so ds fun l h1 => .rt (.own l) h1
theorem pm_retF {fl : DS → LH → Out (List D)} (he : FM X W e fl) : PM X W mu0 (.Return (some e) pos) (sRetF fl) := ⟨PS.imp (ps_ret he.pe) fun E st H ⟨ds, mu, h, r, q⟩ =>
  ⟨ds, mu, h, r.rs, r.rh, LS.expr r q fun s h1 v H1 mu1 _ e1 r1 rv q1 => by
    obtain ⟨a, xs, rfl, n, m, e, rr⟩ := rv
    refine q1 _ H1 mu1 r1.ext r1.rh ⟨a, xs, rfl, ?_, m, e, rr⟩
    cases z : X.H_0 a with
    | none => rfl
    | some u => exact absurd n (r.ext.live a (by rw [z]; simp))⟩⟩
def sRetN : SF := fun _ h => .rt (.val .none) h
theorem pm_retN : PM X W mu0 (.Return none pos) sRetN := ⟨PS.imp ps_retN fun E st H ⟨ds, mu, h, r, q⟩ => q _ H mu r.ext r.rh Rp.non⟩
/-- return of one's own list at a slot -/
def sRetO (i : Nat) : SF := fun ds h => orBadS (match ds[i]? with
  | some (some (.own l)) => some l
  | _ => none) fun l => .rt (.own l) h
theorem own_of {ds : DS} {l : List D} (h : (match ds[i]? with
  | some (some (.own l)) => some l
  | _ => none) = some l) : ds[i]? = some (some (.own l)) := by
  split at h
  · rename_i l' e
    cases h
    exact e
  · cases h
theorem RelF.own {st : L2.St} {ds : DS} {H : Hp} {mu : List Addr} {h : LH} (r : RelF X mu0 st ds H mu h) {l : List D} (e : ds[i]? = some (some (.own l))) : ∃ a xs, st[i]? = some (some (.ref a)) ∧ X.H_0 a = none ∧ H a = some (.lst xs) ∧ a ∉ mu ∧ RpAll X.K H xs l := by
  obtain ⟨v, ev, a, xs, rfl, h1, h2, h3⟩ := r.rs.at_ i _ e (fun _ z => by cases z)
  exact ⟨a, xs, ev, r.fresh i l a e ev, h1, h2, h3⟩
theorem pm_retO (hN : X.N[i]? = some x) (hv : Vis X.env.scope x) (hd : (x == ("__debug__" : Str)) = false := by decide) (hcd : (x == ("__classdict__" : Str)) = false := by decide) : PM X W mu0 (.Return (some (.Name x pos')) pos) (sRetO i) := ⟨PS.imp (ps_ret (pe_var hN hv hd hcd)) fun E st H ⟨ds, mu, h, r, q⟩ => by
  obtain ⟨l, e, q⟩ := q.orBad
  obtain ⟨a, xs, ev, n, hl, nm, rr⟩ := r.own (own_of e)
  exact ⟨_, ev, q _ H mu r.ext r.rh ⟨a, xs, rfl, n, nm, hl, rr⟩⟩⟩
/-- if -/
def sIf (t : DS → LH → Out Bool) (f g : SF) : SF := fun ds h => (t ds h).so ds fun b h1 => match b with
  | true => f ds h1
  | false => g ds h1
theorem pm_if {c : Expr} {a b : List Stmt} (hc : TM X W c ft) (ha : BM X W mu0 a f) (hb : BM X W mu0 b g) : PM X W mu0 (.If c a b pos) (sIf ft f g) := ⟨PS.imp (ps_if hc.pt ha.pss hb.pss) fun E st H ⟨ds, mu, h, r, q⟩ =>
  ⟨ds, mu, h, r.rs, r.rh, LS.expr r q fun b h1 v H1 mu1 _ e1 r1 rv q1 => by
    subst rv
    cases v with
    | true => exact iteT ⟨ds, mu1, h1, r1, q1⟩
    | false => exact iteF ⟨ds, mu1, h1, r1, q1⟩⟩⟩

/-! ### names stored -/
/-- what a slot may hold as data -/
def storeB : SV → Bool
  | .val _ => true
  | .ref _ => true
  | .scr _ => true
  | _ => false
theorem RelF.set {st : L2.St} {ds : DS} {H : Hp} {mu : List Addr} {h : LH} (r : RelF X mu0 st ds H mu h) {v : V} {s : SV} (p : storeB s = true) (rv : RelSV X.K H mu v s) : RelF X mu0 (st.set i (some v)) (ds.set i (some s)) H mu h where
  rs := r.rs.set i rv (fun x z => by subst z; cases p)
  rh := r.rh
  ext := r.ext
  fresh := fun j l a h1 h2 => by
    by_cases e : i = j
    · subst e
      by_cases hi : i < ds.length
      · rw [List.getElem?_set_self hi] at h1; cases h1; cases p
      · rw [List.getElem?_eq_none (by simpa using hi)] at h1; cases h1
    · rw [List.getElem?_set_ne e] at h1 h2
      exact r.fresh j l a h1 h2
  apart := fun j k l l' a hne h1 h2 h3 => by
    have aux : ∀ {j : Nat} {l : List D}, (ds.set i (some s))[j]? = some (some (.own l)) → i ≠ j := fun {j l} h1 z => by
      subst z
      by_cases hi : i < ds.length
      · rw [List.getElem?_set_self hi] at h1; cases h1; cases p
      · rw [List.getElem?_eq_none (by simpa using hi)] at h1; cases h1
    have e1 := aux h1
    have e2 := aux h2
    rw [List.getElem?_set_ne e1] at h1 h3
    rw [List.getElem?_set_ne e2] at h2 ⊢
    exact r.apart j k l l' a hne h1 h2 h3
def sSet (i : Nat) (fe : DS → LH → Out SV) : SF := fun ds h => (fe ds h).so ds fun s h1 => iffS (storeB s = true) (.nx (ds.set i (some s)) h1)
theorem pm_set {e : Expr} {pos' : Pos} (hN : X.N.Nodup) (hi : X.N[i]? = some x) (hx : Loc X.env.scope x) (he : EM X W e fe) (hs : swapsWith e (some (.Name x pos')) pos.line X.env = pure false := by rfl) (hf : X.fn x = true ∨ X.env.scope.names.lookup x = some .local := by first | exact .inl rfl | exact .inr rfl | assumption) :
    PM X W mu0 (.Assign [.Name x pos'] e pos) (sSet i fe) := ⟨PS.imp (ps_set hN hi hx he.pe hs hf) fun E st H ⟨ds, mu, h, r, q⟩ =>
  ⟨ds, mu, h, r.rs, r.rh, LS.expr r q fun s h1 v H1 mu1 _ e1 r1 rv q1 => by
    obtain ⟨p, q2⟩ := q1.iff
    exact q2 _ H1 mu1 (r1.set p rv) (.refl _)⟩⟩
/-- a new list as one's own -/
theorem RelF.setOwn {st : L2.St} {ds : DS} {H : Hp} {mu : List Addr} {h : LH} (r : RelF X mu0 st ds H mu h) {a : Addr} {xs : List V} {l : List D} (n : X.H_0 a = none) (na : ∀ (j : Nat) (l' : List D), ds[j]? = some (some (SV.own l')) → st[j]? ≠ some (some (V.ref a))) (e : H a = some (.lst xs)) (nm : a ∉ mu) (rr : RpAll X.K H xs l) :
    RelF X mu0 (st.set i (some (.ref a))) (ds.set i (some (.own l))) H mu h where
  rs := r.rs.set i (s := .own l) ⟨a, xs, rfl, e, nm, rr⟩ (fun x z => by cases z)
  rh := r.rh
  ext := r.ext
  fresh := fun j l' b h1 h2 => by
    by_cases e : i = j
    · subst e
      by_cases hi : i < ds.length
      · rw [List.getElem?_set_self (by rw [r.rs.len]; exact hi)] at h2; cases h2; exact n
      · rw [List.getElem?_eq_none (by simpa using hi)] at h1; cases h1
    · rw [List.getElem?_set_ne e] at h1 h2
      exact r.fresh j l' b h1 h2
  apart := fun j k l1 l2 b hne h1 h2 h3 => by
    by_cases ej : i = j
    · subst ej
      rw [List.getElem?_set_ne hne] at h2 ⊢
      have hi : i < ds.length := by
        by_cases hi : i < ds.length
        · exact hi
        · rw [List.getElem?_eq_none (by simpa using hi)] at h1; cases h1
      rw [List.getElem?_set_self (by rw [r.rs.len]; exact hi)] at h3
      cases h3
      exact na k l2 h2
    · rw [List.getElem?_set_ne ej] at h1 h3
      by_cases ek : i = k
      · subst ek
        intro h4
        have hi : i < ds.length := by
          by_cases hi : i < ds.length
          · exact hi
          · rw [List.getElem?_eq_none (by simpa using hi)] at h2; cases h2
        rw [List.getElem?_set_self (by rw [r.rs.len]; exact hi)] at h4
        cases h4
        exact na j l1 h1 h3
      · rw [List.getElem?_set_ne ek] at h2 ⊢
        exact r.apart j k l1 l2 b hne h1 h2 h3
theorem RelF.newOwn {st : L2.St} {ds : DS} {H H1 : Hp} {mu mu1 : List Addr} {h h1 : LH} (r : RelF X mu0 st ds H mu h) (r1 : RelF X mu0 st ds H1 mu1 h1) {a : Addr} {xs : List V} {l : List D} (n : H a = none) (e : H1 a = some (.lst xs)) (nm : a ∉ mu1) (rr : RpAll X.K H1 xs l) :
    RelF X mu0 (st.set i (some (.ref a))) (ds.set i (some (.own l))) H1 mu1 h1 := by
  refine r1.setOwn ?_ (fun j l' hj hs => ?_) e nm rr
  · cases z : X.H_0 a with
    | none => rfl
    | some u => exact absurd n (r.ext.live a (by rw [z]; simp))
  · obtain ⟨b, ys, eb, _, hb, _, _⟩ := r.own hj
    rw [hs] at eb
    cases eb
    rw [n] at hb; cases hb
def sOwn (i : Nat) (fl : DS → LH → Out (List D)) : SF := fun ds h => (fl ds h).so ds fun l h1 => .nx (ds.set i (some (.own l))) h1
theorem pm_own {e : Expr} {fl : DS → LH → Out (List D)} {pos' : Pos} (hN : X.N.Nodup) (hi : X.N[i]? = some x) (hx : Loc X.env.scope x) (he : FM X W e fl) (hs : swapsWith e (some (.Name x pos')) pos.line X.env = pure false := by rfl) (hf : X.fn x = true ∨ X.env.scope.names.lookup x = some .local := by first | exact .inl rfl | exact .inr rfl | assumption) :
    PM X W mu0 (.Assign [.Name x pos'] e pos) (sOwn i fl) := ⟨PS.imp (ps_set hN hi hx he.pe hs hf) fun E st H ⟨ds, mu, h, r, q⟩ =>
  ⟨ds, mu, h, r.rs, r.rh, LS.expr r q fun l h1 v H1 mu1 _ e1 r1 rv q1 => by
    obtain ⟨a, xs, rfl, n, nm, e, rr⟩ := rv
    exact q1 _ H1 mu1 (r.newOwn r1 n e nm rr) (.refl _)⟩⟩
/-- name = [..] on one line -/
theorem pm_ownLc {y : Str} {py : Pos} {elt tg iter : Expr} {ifs : List Expr} {scope : Scope} {own : List (Str × Nat)} {spos : Pos} {fi : DS → LH → Out (List D)} {ftg : D → DS → Option DS} {tt : DS → LH → Out Bool} {fe : DS → LH → Out SV} {is : List Nat}
    (hc : X.calm = true) (hN : X.N.Nodup) (hy : X.N[i]? = some y) (hyl : X.env.scope.names.lookup y = some .local)
    (hsw : swapsWith (.ListComp elt [⟨tg, iter, ifs, 0⟩] scope pos) (some (.Name y py)) spos.line X.env = pure true) (hi : IM X W tg iter fi) (ok : BlkOk X.N X.env.scope scope own)
    (hg : ∀ (s : Shared) (H : Hp) (C : Addr) (cl : List (Str × Addr)) (fp : List Addr), GM (X.blk s H scope (compEnvC scope cl C X.env) fp) tg is ftg) (ht : ∀ (s : Shared) (H : Hp) (C : Addr) (cl : List (Str × Addr)) (fp : List Addr), SM (X.blk s H scope (compEnvC scope cl C X.env) fp) NW ifs tt)
    (he : ∀ (s : Shared) (H : Hp) (C : Addr) (cl : List (Str × Addr)) (fp : List Addr), EM (X.blk s H scope (compEnvC scope cl C X.env) fp) NW elt fe) (hsub : ∀ i ∈ is, i ∈ own.map (·.2)) (hs : ∀ x, foldedSetIterable iter X.env x = pure x := by intro _; rfl) :
    PM X W mu0 (.Assign [.Name y py] (.ListComp elt [⟨tg, iter, ifs, 0⟩] scope pos) spos) (sOwn i (fLc fi ftg tt fe (own.map (·.2)))) :=
  ⟨PS.imp (ps_setLc hc hN hy hyl hsw hi.pi ok (fun s H C cl fp => (hg s H C cl fp).pg) (fun s H C cl fp => (ht s H C cl fp).pts) (fun s H C cl fp => (he s H C cl fp).pe) hs) fun E st H ⟨ds, mu, h, r, q⟩ =>
    LF.comp (W := W) hsub (fun _ _ _ q => q) (fun _ _ _ _ q => q) (fun _ _ _ q => q) (fun _ _ _ q => q) st H (fun x H1 => gName i x st H1 E.nx) ⟨ds, mu, h, r.rs, r.rh, LS.expr r q fun l h1 v H1 mu1 _ e1 r1 rv q1 => by
      obtain ⟨a, xs, rfl, n, nm, e, rr⟩ := rv
      exact q1 _ H1 mu1 (r.newOwn r1 n e nm rr) (.refl _)⟩⟩
/-- a slot's own list becomes data, ahead of a statement -/
def sFz (i : Nat) (f : SF) : SF := fun ds h => orBadS (match ds[i]? with
  | some (some (.own l)) => some l
  | _ => none) fun l => f (ds.set i (some (.val (.list l)))) h
theorem RelF.frz {st : L2.St} {ds : DS} {H : Hp} {mu : List Addr} {h : LH} (r : RelF X mu0 st ds H mu h) {l : List D} {a : Addr} {xs : List V} {o : Obj} (e : ds[i]? = some (some (.own l))) (ev : st[i]? = some (some (.ref a))) (n : X.H_0 a = none) (hl : H a = some (.lst xs)) (nm : a ∉ mu) (rr : RpAll X.K H xs l) :
    RelF X mu0 st (ds.set i (some (.val (.list l)))) (upd H a (.frz o (.lst xs))) mu h := by
  have mo : Mono H (upd H a (.frz o (.lst xs))) := mono_frz hl
  have hi : i < ds.length := (List.getElem?_eq_some_iff.mp e).1
  have other : ∀ {j : Nat} {s : SV}, i ≠ j → ds[j]? = some (some s) → ∀ {v : V}, st[j]? = some (some v) → RelSV X.K H mu v s → RelSV X.K (upd H a (.frz o (.lst xs))) mu v s := fun {j s} hne hj {v} hv rv => by
    cases s with
    | val d => exact rv.mono mo
    | ref k => exact rv
    | scr ns => obtain ⟨b, q, z⟩ := rv; exact ⟨b, q, mo.fzk z⟩
    | exc x => exact rv
    | own l' =>
      obtain ⟨b, ys, rfl, hb, nb, rb⟩ := rv
      have hne' : b ≠ a := fun z => by subst z; exact r.apart i j l l' b hne e hj ev hv
      exact ⟨b, ys, rfl, by rw [upd_ne hne']; exact hb, nb, rb.mono mo⟩
  have noown : ∀ {j : Nat} {l' : List D}, (ds.set i (some (.val (.list l))))[j]? = some (some (.own l')) → i ≠ j := fun {j l'} hj z => by
    subst z
    rw [List.getElem?_set_self hi] at hj; cases hj
  refine ⟨⟨by rw [List.length_set]; exact r.rs.len, fun j s hj hn => ?_, fun j x hj => ?_⟩, r.rh.frz nm hl, r.ext.frz n hl, fun j l' b h1 h2 => ?_, fun j k l1 l2 b hne h1 h2 h3 => ?_⟩
  · by_cases z : i = j
    · subst z
      rw [List.getElem?_set_self hi] at hj
      cases hj
      exact ⟨_, ev, .lst ⟨o, upd_same⟩ (rr.mono mo)⟩
    · rw [List.getElem?_set_ne z] at hj
      obtain ⟨v, hv, rv⟩ := r.rs.at_ j s hj hn
      exact ⟨v, hv, other z hj hv rv⟩
  · have z : i ≠ j := fun z => by subst z; rw [List.getElem?_set_self hi] at hj; cases hj
    rw [List.getElem?_set_ne z] at hj
    obtain ⟨c, oe, h1, h2, h3, h4⟩ := r.rs.ex j x hj
    refine ⟨c, oe, h1, h2, h3, ?_⟩
    rcases h4 with h4 | ⟨d, fs, q1, q2, q3, q4⟩
    · exact .inl h4
    · exact .inr ⟨d, fs, q1, by rw [upd_ne (ne_of q2 hl (by intro z; cases z))]; exact q2, q3, q4.mono mo⟩
  · have z := noown h1
    rw [List.getElem?_set_ne z] at h1
    exact r.fresh j l' b h1 h2
  · have z1 := noown h1
    have z2 := noown h2
    rw [List.getElem?_set_ne z1] at h1
    rw [List.getElem?_set_ne z2] at h2
    exact r.apart j k l1 l2 b hne h1 h2 h3
theorem pm_fz (h : PM X W mu0 s f) : PM X W mu0 s (sFz i f) := ⟨⟨fun pins sh st H E I ⟨ds, mu, hh, r, q⟩ => by
  obtain ⟨l, e, q⟩ := q.orBad
  have e := own_of e
  obtain ⟨a, xs, ev, n, hl, nm, rr⟩ := r.own e
  obtain ⟨o, J⟩ := inv_frzL I hl
  exact h.ps.run pins sh st _ E J ⟨_, mu, hh, r.frz e ev n hl nm rr, q.mono (mono_frz hl)⟩⟩⟩
end
end U
/-! U8: lists changed, loops, raise, defs. -/
namespace U
open PySem PySem.Spec PyProof.Rows L2
section
variable {X : Cx} {W : WX} {mu0 : List Addr} {s : Stmt} {rest : List Stmt} {f g : SF} {a b e o : Expr} {fe fa fo fi : DS → LH → Out SV} {ft : DS → LH → Out Bool} {pos pos' apos : Pos} {i n : Nat} {x : Str} {es : List Expr} {fs : DS → LH → Out (List SV)}

/-! ### one's own list, changed -/
def ownAt (ds : DS) (i : Nat) : Option (List D) := match ds[i]? with
  | some (some (.own l)) => some l
  | _ => none
theorem ownAt_of {ds : DS} {l : List D} (h : ownAt ds i = some l) : ds[i]? = some (some (.own l)) := own_of h
theorem RelF.chg {st : L2.St} {ds : DS} {H : Hp} {mu : List Addr} {h : LH} (r : RelF X mu0 st ds H mu h) {l l' : List D} {a : Addr} {xs ys : List V} (e : ds[i]? = some (some (.own l))) (ev : st[i]? = some (some (.ref a))) (n : X.H_0 a = none) (hl : H a = some (.lst xs)) (nm : a ∉ mu) (rr : RpAll X.K H ys l') :
    RelF X mu0 st (ds.set i (some (.own l'))) (upd H a (.lst ys)) mu h := by
  have mo : Mono H (upd H a (.lst ys)) := mono_setL hl
  have hi : i < ds.length := (List.getElem?_eq_some_iff.mp e).1
  have other : ∀ {j : Nat} {s : SV}, i ≠ j → ds[j]? = some (some s) → ∀ {v : V}, st[j]? = some (some v) → RelSV X.K H mu v s → RelSV X.K (upd H a (.lst ys)) mu v s := fun {j s} hne hj {v} hv rv => by
    cases s with
    | val d => exact rv.mono mo
    | ref k => exact rv
    | scr ns => obtain ⟨b, q, z⟩ := rv; exact ⟨b, q, mo.fzk z⟩
    | exc x => exact rv
    | own l' =>
      obtain ⟨b, zs, rfl, hb, nb, rb⟩ := rv
      have hne' : b ≠ a := fun z => by subst z; exact r.apart i j l l' b hne e hj ev hv
      exact ⟨b, zs, rfl, by rw [upd_ne hne']; exact hb, nb, rb.mono mo⟩
  refine ⟨⟨by rw [List.length_set]; exact r.rs.len, fun j s hj hn => ?_, fun j x hj => ?_⟩, r.rh.setL nm hl, r.ext.setL n hl, fun j l' b h1 h2 => ?_, fun j k l1 l2 b hne h1 h2 h3 => ?_⟩
  · by_cases z : i = j
    · subst z
      rw [List.getElem?_set_self hi] at hj
      cases hj
      exact ⟨_, ev, a, ys, rfl, upd_same, nm, rr.mono mo⟩
    · rw [List.getElem?_set_ne z] at hj
      obtain ⟨v, hv, rv⟩ := r.rs.at_ j s hj hn
      exact ⟨v, hv, other z hj hv rv⟩
  · have z : i ≠ j := fun z => by subst z; rw [List.getElem?_set_self hi] at hj; cases hj
    rw [List.getElem?_set_ne z] at hj
    obtain ⟨c, oe, h1, h2, h3, h4⟩ := r.rs.ex j x hj
    refine ⟨c, oe, h1, h2, h3, ?_⟩
    rcases h4 with h4 | ⟨d, fs, q1, q2, q3, q4⟩
    · exact .inl h4
    · exact .inr ⟨d, fs, q1, by rw [upd_ne (ne_of q2 hl (by intro z; cases z))]; exact q2, q3, q4.mono mo⟩
  · by_cases z : i = j
    · subst z; rw [ev] at h2; cases h2; exact n
    · rw [List.getElem?_set_ne z] at h1
      exact r.fresh j l' b h1 h2
  · by_cases z1 : i = j
    · subst z1
      rw [List.getElem?_set_ne hne] at h2
      exact r.apart i k l l2 b hne e h2 h3
    · rw [List.getElem?_set_ne z1] at h1
      by_cases z2 : i = k
      · subst z2
        exact r.apart j i l1 l b hne h1 e h3
      · rw [List.getElem?_set_ne z2] at h2
        exact r.apart j k l1 l2 b hne h1 h2 h3
/-- x.append(e) -/
def sApp (i : Nat) (fe : DS → LH → Out SV) : SF := fun ds h => orBadS (ownAt ds i) fun l => (fe ds h).so ds fun s h1 => orBadS (asVal s) fun d => iffS (l.length < sizeLine) (.nx (ds.set i (some (.own (l ++ [d])))) h1)
theorem pm_app (hN : X.N[i]? = some x) (hv : Vis X.env.scope x) (he : EM X W e fe) {p0 p1 p2 p3 : Pos} (hd : (x == ("__debug__" : Str)) = false := by decide) (hcd : (x == ("__classdict__" : Str)) = false := by decide)
    (hbase : attributeBase (.Name x p0) "append" X.env (eval (.Name x p0) X.env) = eval (.Name x p0) X.env := by rfl)
    (hfew : ((backTo p2 (starEach [e] X.env)).all (fun x => !x.1) && (backToKw p2 (keywordEach [] X.env)).all (fun x => x.1.isSome)
      && decide ([e].length + ([] : List Keyword).length + (if ([] : List Keyword).isEmpty then 0 else 1) < 30)) = true := by rfl)
    (hline : (p1.endLine == p2.line) = true := by rfl) (hs : starEach [e] X.env = (false, eval e X.env) :: starEach [] X.env := by rfl) (hplain : (backTo p2 (starEach [] X.env)).any (·.1) = false := by rfl)
    (hsw : swapsWith (.Call (.Attribute (.Name x p0) "append" p1) [e] [] p2) none p3.line X.env = pure false := by rfl) :
    PM X W mu0 (.Expr (.Call (.Attribute (.Name x p0) "append" p1) [e] [] p2) p3) (sApp i fe) := by
  refine ⟨PS.imp (ps_expr (pe_bm PySem.F.plainAttrs_list PySem.F.slot_list_append PySem.F.type_list_append (mt_append : MtR X "list.append" rAppend) (pe_var hN hv hd hcd) (pa_cons he.pe pa_nil hs) hbase hfew hline hs hplain) hsw) fun E st H ⟨ds, mu, h, r, q⟩ => ?_⟩
  obtain ⟨l, el, q⟩ := q.orBad
  have el := ownAt_of el
  obtain ⟨a, xs, ev, n, hl, nm, rr⟩ := r.own el
  refine ⟨_, ev, .inl ⟨rfl, _, .inl (.inl hl)⟩, ds, mu, h, r.rs, r.rh, LS.expr r q fun s h1 v H1 mu1 _ e1 r1 rv q1 => ?_⟩
  obtain ⟨d, ed, q2⟩ := q1.orBad
  obtain ⟨hz, q3⟩ := q2.iff
  have ed := asVal_of ed
  subst ed
  obtain ⟨a', ys, ev', n', hl', nm', rr'⟩ := r1.own el
  rw [ev] at ev'
  cases ev'
  exact ⟨a, ys, v, rfl, rfl, hl', by rw [rr'.length]; exact hz, q3 _ _ mu1 (r1.chg el ev n hl' nm' (rr'.append (.cons rv .nil))) (mono_setL hl')⟩
def rExtR : V → List V → Hp → VK → Prop := fun x vs H Q => ∃ l b xs zs, x = .ref l ∧ vs = [.ref b] ∧ H l = some (.lst xs) ∧ Rd H b (.lst zs) ∧ xs.length + zs.length ≤ sizeLine ∧ Q .non (upd H l (.lst (xs ++ zs)))
theorem mt_extR : MtM X "list.extend" rExtR := by
  intro pins s st H x vs v us Q I rx rv h
  obtain ⟨l, b, xs, zs, rfl, rfl, hH, hB, hz, q⟩ := h
  cases rx
  obtain ⟨u, rfl, ru⟩ := rv.one
  cases ru
  obtain ⟨z, its, n, r, hl, e⟩ := I.lstM hH
  obtain ⟨z2, its2, n2, r2, hl2, e2⟩ := Inv.lstR I hB
  have hsz : its.toArray.size + its2.toArray.size ≤ sizeLine := by rw [List.size_toArray, List.size_toArray]; omega
  have hlong : ¬ (!its.toArray.isEmpty && Builtin.List.listTooLong (its.toArray.size + its2.toArray.size)) = true := by
    rw [notLongL hsz, Bool.and_false]
    exact Bool.false_ne_true
  refine call_meets F.slot_list_extend ⟨_, e, rfl⟩ F.entry_list_extend (F.args_list_extend_2 _ _)
    (AutoSeq1.list_extend_list_list_0 l its.toArray n b its2.toArray n2 hlong (by rw [List.size_toArray]; omega) (by omega)) ⟨e, e2, ?_⟩
  refine ⟨.non, _, I.lset (its' := its ++ its2) hH e (by simp) (r.append r2) ?_, rfl, q⟩
  rw [List.length_append]
  omega
/-- x.extend(e) -/
def sExt (i : Nat) (fe : DS → LH → Out SV) : SF := fun ds h => orBadS (ownAt ds i) fun l => (fe ds h).so ds fun s h1 => orBadS (asLst s) fun l2 => iffS (l.length + l2.length ≤ sizeLine) (.nx (ds.set i (some (.own (l ++ l2)))) h1)
theorem pm_ext (hN : X.N[i]? = some x) (hv : Vis X.env.scope x) (he : EM X W e fe) {p0 p1 p2 p3 : Pos} (hd : (x == ("__debug__" : Str)) = false := by decide) (hcd : (x == ("__classdict__" : Str)) = false := by decide)
    (hbase : attributeBase (.Name x p0) "extend" X.env (eval (.Name x p0) X.env) = eval (.Name x p0) X.env := by rfl)
    (hfew : ((backTo p2 (starEach [e] X.env)).all (fun x => !x.1) && (backToKw p2 (keywordEach [] X.env)).all (fun x => x.1.isSome)
      && decide ([e].length + ([] : List Keyword).length + (if ([] : List Keyword).isEmpty then 0 else 1) < 30)) = true := by rfl)
    (hline : (p1.endLine == p2.line) = true := by rfl) (hs : starEach [e] X.env = (false, eval e X.env) :: starEach [] X.env := by rfl) (hplain : (backTo p2 (starEach [] X.env)).any (·.1) = false := by rfl)
    (hsw : swapsWith (.Call (.Attribute (.Name x p0) "extend" p1) [e] [] p2) none p3.line X.env = pure false := by rfl) :
    PM X W mu0 (.Expr (.Call (.Attribute (.Name x p0) "extend" p1) [e] [] p2) p3) (sExt i fe) := by
  refine ⟨PS.imp (ps_expr (pe_bm PySem.F.plainAttrs_list PySem.F.slot_list_extend PySem.F.type_list_extend (mt_extR : MtR X "list.extend" rExtR) (pe_var hN hv hd hcd) (pa_cons he.pe pa_nil hs) hbase hfew hline hs hplain) hsw) fun E st H ⟨ds, mu, h, r, q⟩ => ?_⟩
  obtain ⟨l, el, q⟩ := q.orBad
  have el := ownAt_of el
  obtain ⟨a, xs, ev, n, hl, nm, rr⟩ := r.own el
  refine ⟨_, ev, .inl ⟨rfl, _, .inl (.inl hl)⟩, ds, mu, h, r.rs, r.rh, LS.expr r q fun s h1 v H1 mu1 _ e1 r1 rv q1 => ?_⟩
  obtain ⟨l2, ed, q1⟩ := q1.orBad
  obtain ⟨hz, q1⟩ := q1.iff
  obtain ⟨b, zs, rfl, hb, rb⟩ := asLst_rel ed rv
  obtain ⟨a', ys, ev', n', hl', nm', rr'⟩ := r1.own el
  rw [ev] at ev'
  cases ev'
  exact ⟨a, b, ys, zs, rfl, rfl, hl', hb, by rw [rr'.length, rb.length]; exact hz, q1 _ _ mu1 (r1.chg el ev n hl' nm' (rr'.append rb)) (mono_setL hl')⟩
/-- x += e, ints -/
def sAug (i : Nat) (fe : DS → LH → Out SV) : SF := fun ds h => orBadS ((slot ds i).bind asInt) fun k => (fe ds h).so ds fun s h1 => orBadS (asInt s) fun j => .nx (ds.set i (some (.val (.int (k + j))))) h1
theorem pm_aug (hN : X.N.Nodup) (hi : X.N[i]? = some x) (hx : Loc X.env.scope x) (he : EM X W e fe) (hf : X.fn x = true ∨ X.env.scope.names.lookup x = some .local := by first | exact .inl rfl | exact .inr rfl | assumption) :
    PM X W mu0 (.AugAssign (.Name x pos') .Add e pos) (sAug i fe) := ⟨PS.imp (ps_aug hN hi hx he.pe ip_add hf) fun E st H ⟨ds, mu, h, r, q⟩ => by
  obtain ⟨k, ek, q⟩ := q.orBad
  cases es : slot ds i with
  | none => rw [es] at ek; cases ek
  | some sv =>
    rw [es] at ek
    have ek : asInt sv = some k := ek
    obtain ⟨e0, n0⟩ := slot_of es
    obtain ⟨v, ev, rv⟩ := r.rs.at_ i sv e0 n0
    have := asInt_rel ek rv
    subst this
    refine ⟨_, ev, ds, mu, h, r.rs, r.rh, LS.expr r q fun s h1 u H1 mu1 _ e1 r1 ru q1 => ?_⟩
    obtain ⟨j, ej, q1⟩ := q1.orBad
    exact ⟨k, j, rfl, asInt_rel ej ru, q1 _ H1 mu1 (r1.set rfl (.int _)) (.refl _)⟩⟩
/-- a, b = e -/
def sTg (ftg : D → DS → Option DS) (fe : DS → LH → Out SV) : SF := fun ds h => (fe ds h).so ds fun s h1 => orBadS (asVal s) fun d => orBadS (ftg d ds) fun ds' => .nx ds' h1
theorem RelF.tg {is : List Nat} {st st' : L2.St} {ds ds' : DS} {H : Hp} {mu : List Addr} {h : LH} (r : RelF X mu0 st ds H mu h) (rs : RelS X.K X.mg X.pn H mu st' ds') (t : TgOk is st ds st' ds') : RelF X mu0 st' ds' H mu h := by
  have aux : ∀ {j : Nat} {l : List D}, ds'[j]? = some (some (.own l)) → ds[j]? = some (some (.own l)) ∧ st'[j]? = st[j]? := fun {j l} hj => by
    have nj : j ∉ is := fun z => t.inn j z l hj
    obtain ⟨x1, x2⟩ := t.out j nj
    rw [x2] at hj
    exact ⟨hj, x1⟩
  refine ⟨rs, r.rh, r.ext, fun j l a h1 h2 => ?_, fun j k l l' a hne h1 h2 h3 => ?_⟩
  · obtain ⟨y1, y2⟩ := aux h1
    rw [y2] at h2
    exact r.fresh j l a y1 h2
  · obtain ⟨y1, y2⟩ := aux h1
    obtain ⟨z1, z2⟩ := aux h2
    rw [y2] at h3
    rw [z2]
    exact r.apart j k l l' a hne y1 z1 h3
theorem pm_tg {tg : Expr} {is : List Nat} {ftg : D → DS → Option DS} (he : EM X W e fe) (hg : GM X tg is ftg) (hs : swapsWithSole [tg] e pos.line X.env = pure false := by rfl) (hw : swappedStores [tg] e X.env = pure none := by rfl)
    (h1 : (assignEach [tg] X.env).map (·.2) = [assign tg X.env] := by rfl) : PM X W mu0 (.Assign [tg] e pos) (sTg ftg fe) := ⟨PS.imp (ps_asg he.pe hg.pg hs hw h1) fun E st H ⟨ds, mu, h, r, q⟩ =>
  ⟨ds, mu, h, r.rs, r.rh, LS.expr r q fun s h1 v H1 mu1 _ e1 r1 rv q1 => by
    obtain ⟨d, ed, q2⟩ := q1.orBad
    obtain ⟨ds', et, q3⟩ := q2.orBad
    have ed := asVal_of ed
    subst ed
    exact ⟨d, ds, mu1, ds', r1.rs, rv, et, fun st' rs' t => q3 st' H1 mu1 (r1.tg rs' t) (.refl _)⟩⟩⟩

/-! ### loops -/
def forL (ftg : D → DS → Option DS) (fb : SF) : List D → DS → LH → SO
  | [], ds, h => .nx ds h
  | x :: r, ds, h => orBadS (ftg x ds) fun ds1 => match fb ds1 h with
    | .nx ds2 h2 => forL ftg fb r ds2 h2
    | .ct ds2 h2 => forL ftg fb r ds2 h2
    | .bk ds2 h2 => .nx ds2 h2
    | o => o
def sFor (fi : DS → LH → Out (List D)) (ftg : D → DS → Option DS) (fb : SF) : SF := fun ds h => (fi ds h).so ds fun items h1 => forL ftg fb items ds h1
theorem pm_for {tg iter : Expr} {body : List Stmt} {is : List Nat} {fi : DS → LH → Out (List D)} {ftg : D → DS → Option DS} {fb : SF} (hp : PassesOwn (model X.prog X.w) X.A X.env X.xe) (hc : X.calm = true) (hi : IM X W tg iter fi) (hg : GM X tg is ftg) (hb : BM X W mu0 body fb)
    (hs : ∀ x, foldedSetIterable iter X.env x = pure x := by intro _; rfl) : PM X W mu0 (.For tg iter body [] pos) (sFor fi ftg fb) := ⟨PS.imp (ps_for hp hc hi.pi hg.pg hb.pss hs) fun E st H ⟨ds, mu, h, r, q⟩ =>
  ⟨ds, mu, h, r.rs, r.rh, LS.expr r q fun items h1 J H1 mu1 _ e1 r1 sv q1 => by
    refine ⟨fun i m st' H' => m = items.length - i ∧ i ≤ items.length ∧ ∃ ds' mu' h', RelF X mu0 st' ds' H' mu' h' ∧ Mono H1 H' ∧ AfterS X W mu0 H1 (forL ftg fb (items.drop i) ds' h') E,
      ⟨items.length, by simp, by simp, ds, mu1, h1, r1, .refl _, by rw [List.drop_zero]; exact q1⟩, ?_⟩
    rintro i m st2 H2 ⟨rfl, hi, ds2, mu2, h2, r2, m2, q2⟩
    obtain ⟨sgo, sst⟩ := sv i H2 m2
    by_cases hlt : i < items.length
    · right
      have hx : items[i]? = some items[i] := List.getElem?_eq_getElem hlt
      obtain ⟨go, yl⟩ := sgo _ hx
      refine ⟨go, fun st' H' => ∃ ds' mu' h', RelF X mu0 st' ds' H' mu' h' ∧ Mono H1 H' ∧ AfterS X W mu0 H1 (forL ftg fb (items.drop (i + 1)) ds' h') E, fun st' H' hn => ⟨items.length - (i + 1), by omega, rfl, hlt, hn⟩, fun v H3 hy => ?_⟩
      obtain ⟨e3, rv⟩ := yl v H3 hy
      rw [List.drop_eq_getElem_cons hlt] at q2
      unfold forL at q2
      obtain ⟨ds3, et, q2⟩ := q2.orBad
      have e3' : Ext mu2 H2 mu2 H3 := ⟨e3.mono, fun b u q _ => e3.keep b u q (by simp), ⟨[], by simp, by simp⟩, e3.live⟩
      have rh3 : RelH X.K H3 mu2 h2 := r2.rh.same e3' fun a _ u q => e3.keep a u q (by simp)
      have r3 := r2.step e3' rh3
      have m3 := m2.trans e3.mono
      refine ⟨items[i], ds2, mu2, ds3, r3.rs, rv, et, fun st4 rs4 t4 => ⟨ds3, mu2, h2, r3.tg rs4 t4, ?_⟩⟩
      cases eb : fb ds3 h2 with
      | nx ds5 h5 =>
        rw [eb] at q2
        exact fun st5 H5 mu5 r5 m5 => ⟨ds5, mu5, h5, r5, m3.trans m5, q2⟩
      | ct ds5 h5 =>
        rw [eb] at q2
        exact fun st5 H5 mu5 r5 m5 => ⟨ds5, mu5, h5, r5, m3.trans m5, q2⟩
      | bk ds5 h5 =>
        rw [eb] at q2
        exact fun st5 H5 mu5 r5 m5 => q2 st5 H5 mu5 r5 (m3.trans m5)
      | rt s5 h5 => rw [eb] at q2; exact q2
      | exc x5 ds5 h5 => rw [eb] at q2; exact fun c dd st5 H5 mu5 r5 m5 rx => q2 c dd st5 H5 mu5 r5 (m3.trans m5) rx
      | bad => rw [eb] at q2; exact q2
    · left
      have ei : i = items.length := by omega
      subst ei
      refine ⟨sst (Nat.le_refl _), ?_⟩
      rw [List.drop_length] at q2
      exact q2 st2 H2 mu2 r2 m2⟩⟩
def whileN (t : DS → LH → Out Bool) (fb : SF) : Nat → DS → LH → SO
  | 0, _, _ => .bad
  | n + 1, ds, h => (t ds h).so ds fun b h1 => match b with
    | false => .nx ds h1
    | true => match fb ds h1 with
      | .nx ds2 h2 => whileN t fb n ds2 h2
      | .ct ds2 h2 => whileN t fb n ds2 h2
      | .bk ds2 h2 => .nx ds2 h2
      | o => o
theorem pm_while {c : Expr} {body : List Stmt} {fb : SF} (N : Nat) (hp : PassesOwn (model X.prog X.w) X.A X.env X.xe) (hc : TM X W c ft) (hb : BM X W mu0 body fb) : PM X W mu0 (.While c body [] pos) (whileN ft fb N) := ⟨PS.imp (ps_while hp hc.pt hb.pss) fun E st H ⟨ds, mu, h, r, q⟩ => by
  refine ⟨fun m st' H' => ∃ ds' mu' h', RelF X mu0 st' ds' H' mu' h' ∧ AfterS X W mu0 H' (whileN ft fb m ds' h') E, ⟨N, ds, mu, h, r, q⟩, ?_⟩
  rintro m st2 H2 ⟨ds2, mu2, h2, r2, q2⟩
  cases m with
  | zero => exact q2.elim
  | succ n =>
    unfold whileN at q2
    refine ⟨ds2, mu2, h2, r2.rs, r2.rh, LS.expr r2 q2 fun b h3 v H3 mu3 _ e3 r3 rv q3 => ?_⟩
    subst rv
    cases v with
    | false => exact iteF (q3 st2 H3 mu3 r3 (.refl _))
    | true =>
      refine iteT ⟨fun st' H' => ∃ ds' mu' h', RelF X mu0 st' ds' H' mu' h' ∧ AfterS X W mu0 H' (whileN ft fb n ds' h') E, fun st' H' hn => ⟨n, Nat.lt_succ_self n, hn⟩, ds2, mu3, h3, r3, ?_⟩
      have q3 : AfterS X W mu0 H3 (match fb ds2 h3 with
        | .nx ds2 h2 => whileN ft fb n ds2 h2
        | .ct ds2 h2 => whileN ft fb n ds2 h2
        | .bk ds2 h2 => .nx ds2 h2
        | o => o) E := q3
      cases eb : fb ds2 h3 with
      | nx ds5 h5 =>
        rw [eb] at q3
        exact fun st5 H5 mu5 r5 m5 => ⟨ds5, mu5, h5, r5, AfterS.mono (show AfterS X W mu0 H3 (whileN ft fb n ds5 h5) E from q3) m5⟩
      | ct ds5 h5 =>
        rw [eb] at q3
        exact fun st5 H5 mu5 r5 m5 => ⟨ds5, mu5, h5, r5, AfterS.mono (show AfterS X W mu0 H3 (whileN ft fb n ds5 h5) E from q3) m5⟩
      | bk ds5 h5 => rw [eb] at q3; exact q3
      | rt s5 h5 => rw [eb] at q3; exact q3
      | exc x5 ds5 h5 => rw [eb] at q3; exact q3
      | bad => rw [eb] at q3; exact q3⟩

/-! ### raise -/
def sRaise (x : Str) : SF := fun ds h => .exc ⟨x, []⟩ ds h
theorem pm_raise {C : Addr} {m : Str} {j : Nat} {p p2 pos pos2 : Pos} {bmB : List Value} {B newId initId : String} (hc : X.calm = true) (tk : Takes X W) (F : ExcBaseFacts B newId initId bmB) (q : PySem.W.excIn X.K C bmB newId = true) (gC : X.mg x = some (.ref C)) (kC : PySem.W.keepIn X.K (.ref C) = true) (r : Raises X (.ref C)) (hg : Gl X x)
    (hdb : (x == ("__debug__" : Str)) = false := by decide) : PM X W mu0 (.Raise (some (.Call (.Name x p) [.Constant (.str m) j p2] [] pos)) none pos2) (sRaise x) :=
  ⟨PS.imp (ps_raise hc tk (pmk_own F q gC kC r hg hdb)) fun E st H ⟨ds, mu, h, r, q⟩ => q (.ref C) none st H mu r (.refl _) ⟨gC, .inl ⟨rfl, rfl⟩⟩⟩

/-! ### lists of the logical heap -/
@[simp] def refLst (h : LH) : SV → Option (Nat × List SV)
  | .ref n => match h[n]? with
    | some (.lst xs) => some (n, xs)
    | _ => none
  | _ => none
theorem refLst_rel {K : PySem.W.Frag} {H : Hp} {mu : List Addr} {h : LH} {v : V} {s : SV} {p : Nat × List SV} (e : refLst h s = some p) (rh : RelH K H mu h) (r : RelSV K H mu v s) : ∃ a vs, v = .ref a ∧ mu[p.1]? = some a ∧ h[p.1]? = some (.lst p.2) ∧ H a = some (.lst vs) ∧ All2 (RelPV K H mu) vs p.2 := by
  cases s with
  | ref n =>
    have e : (match h[n]? with
      | some (GO.lst xs) => some (n, xs)
      | _ => none) = some p := e
    obtain ⟨a, ha, rfl⟩ := r
    cases eh : h[n]? with
    | none => rw [eh] at e; cases e
    | some g =>
      rw [eh] at e
      cases g with
      | lst xs =>
        cases e
        obtain ⟨vs, q1, q2⟩ := rh.at_ n a _ ha eh
        exact ⟨a, vs, rfl, ha, eh, q1, q2⟩
      | ins C fs => cases e
  | _ => cases e
/-- an item of any list -/
def gIxA (x y : SV) (h : LH) : Out SV := orNext (both (refLst h x) (asInt y)) (fun p => orBad (atI p.1.2 p.2) fun s => .ok s h) (gIx x y h)
theorem atI_all2 {α β : Type} {R : α → β → Prop} {vs : List α} {ds : List β} {i : Int} {d : β} (r : All2 R vs ds) (h : atI ds i = some d) : ∃ v, atI vs i = some v ∧ R v d := by
  unfold atI at h ⊢
  rw [r.length]
  cases e : ixN ds.length i with
  | none => rw [e] at h; cases h
  | some j =>
    rw [e] at h
    exact r.get h
theorem og_ix : OpG X (rIx X.K) gIx := fun W mu h H v u x y Q rh r1 r2 q => by
  rcases q.orNext with ⟨p, e, q⟩ | q
  · obtain ⟨e1, e2⟩ := both_of e
    obtain ⟨hz, q⟩ := q.iff
    obtain ⟨c, ec, q⟩ := q.orBad
    exact .inr (.inr ⟨_, _, c, asStr_rel e1 r1, asInt_rel e2 r2, hz, ec, q.here rh (.str _)⟩)
  · obtain ⟨p, e, q⟩ := q.orBad
    obtain ⟨e1, e2⟩ := both_of e
    obtain ⟨d, ed, q⟩ := q.orBad
    obtain ⟨a, xs, ex, hs, z⟩ := asSeq_rel e1 r1
    obtain ⟨v', ev, rv⟩ := atI_rel z ed
    rcases hs with hs | hs
    · exact .inl ⟨a, xs, _, v', ex, asInt_rel e2 r2, hs, ev, q.here rh rv⟩
    · exact .inr (.inl ⟨a, xs, _, v', ex, asInt_rel e2 r2, hs, ev, q.here rh rv⟩)
theorem em_ixA (ha : EM X W a fa) (hb : EM X W b fe) (hs : PlainIx b) : EM X W (.Subscript a b pos) (eBin gIxA fa fe) := by
  refine ⟨PE.imp (pe_ix ix_seq ha.pe hb.pe hs) (LE.bin fun W mu h H v u x y Q rh r1 r2 q => ?_)⟩
  rcases q.orNext with ⟨p, e, q⟩ | q
  · obtain ⟨e1, e2⟩ := both_of e
    obtain ⟨d, ed, q⟩ := q.orBad
    obtain ⟨a, vs, rfl, _, _, hl, rr⟩ := refLst_rel e1 rh r1
    obtain ⟨v', ev, rv⟩ := atI_all2 rr ed
    exact .inl ⟨a, vs, _, v', rfl, asInt_rel e2 r2, rd_sq (.inl hl), ev, q.here rh rv.2⟩
  · exact og_ix W mu h H v u x y Q rh r1 r2 q
/-- an item of the script -/
def gIxS (x y : SV) (h : LH) : Out SV := orBad (both (match x with
  | .scr ns => some ns
  | _ => none) (asInt y)) fun p => orBad (atI p.1 p.2) fun k => .ok (.val (.int k)) h
theorem em_ixS (ha : EM X W a fa) (hb : EM X W b fe) (hs : PlainIx b) : EM X W (.Subscript a b pos) (eBin gIxS fa fe) := by
  refine ⟨PE.imp (pe_ix ix_list ha.pe hb.pe hs) (LE.bin fun W mu h H v u x y Q rh r1 r2 q => ?_)⟩
  obtain ⟨p, e, q1⟩ := q.orBad
  obtain ⟨e1, e2⟩ := both_of e
  obtain ⟨k, ek, q2⟩ := q1.orBad
  cases x with
  | scr ns =>
    cases e1
    obtain ⟨a, rfl, f⟩ := r1
    refine ⟨a, _, _, V.int k, rfl, asInt_rel e2 r2, f.sq, ?_, After.here (R := rSV X.K) q2 rh (Rp.int _)⟩
    unfold atI at ek ⊢
    rw [List.length_map]
    cases e : ixN p.1.length p.2 with
    | none => rw [e] at ek; cases ek
    | some j =>
      rw [e] at ek
      show (p.1.map V.int)[j]? = _
      have ek : p.1[j]? = some k := ek
      rw [List.getElem?_map, ek]; rfl
  | _ => cases e1
/-- a new list of the logical heap -/
def plainsB : List SV → Bool
  | [] => true
  | .val _ :: r => plainsB r
  | .ref _ :: r => plainsB r
  | _ => false
theorem plains_of {K : PySem.W.Frag} {H : Hp} {mu : List Addr} : ∀ {ss : List SV} {vs : List V}, plainsB ss = true → All2 (RelSV K H mu) vs ss → All2 (RelPV K H mu) vs ss
  | [], _, _, .nil => .nil
  | s :: ss, _, h, .cons r t => by
    cases s with
    | val d => exact .cons ⟨trivial, r⟩ (plains_of h t)
    | ref n => exact .cons ⟨trivial, r⟩ (plains_of h t)
    | _ => cases h
def gLstH (xs : List SV) (h : LH) : Out SV := iff (plainsB xs = true ∧ xs.length ≤ sizeLine) (.ok (.ref h.length) (h ++ [.lst xs]))
theorem RelH.add {K : PySem.W.Frag} {H : Hp} {mu : List Addr} {h : LH} (r : RelH K H mu h) {p : Addr} {o : HO} {g : GO} (n : H p = none) (k : RelGO K (upd H p o) (mu ++ [p]) p g) : Ext mu H (mu ++ [p]) (upd H p o) ∧ RelH K (upd H p o) (mu ++ [p]) (h ++ [g]) := by
  have e : Ext mu H (mu ++ [p]) (upd H p o) := ⟨upd_mono n, fun b u q _ => by rw [upd_ne (ne_of_none q n)]; exact q, ⟨[p], rfl, fun a ha => by rw [List.mem_singleton] at ha; subst ha; exact n⟩, fun b q => by
    by_cases z : b = p
    · subst z; rw [upd_same]; simp
    · rw [upd_ne z]; exact q⟩
  have np : p ∉ mu := r.notin n
  refine ⟨e, ⟨by rw [List.length_append, List.length_append, r.len]; rfl, List.nodup_append.mpr ⟨r.nd, by simp, fun a ha b hb => by rw [List.mem_singleton] at hb; subst hb; exact fun z => np (z ▸ ha)⟩, fun m a o h1 h2 => ?_⟩⟩
  by_cases hm : m < mu.length
  · rw [List.getElem?_append_left hm] at h1
    rw [List.getElem?_append_left (by rw [← r.len]; exact hm)] at h2
    exact (r.at_ m a o h1 h2).keep (fun u q => by rw [upd_ne (ne_of_none q n)]; exact q) fun _ _ q => q.ext e
  · rw [List.getElem?_append_right (by omega)] at h1
    rw [List.getElem?_append_right (by rw [← r.len]; omega)] at h2
    rw [← r.len] at h2
    cases hk : m - mu.length with
    | zero =>
      rw [hk] at h1 h2
      cases h1
      cases h2
      exact k
    | succ j => rw [hk] at h1; simp at h1
theorem em_lstH (hs : AM X W es fs) : EM X W (.List es pos) (eArgs gLstH fs) := ⟨PE.imp (pe_lst hs.pa) fun st H Q ⟨ds, mu, h, rs, rh, q⟩ => ⟨ds, mu, h, rs, rh, After.step q fun xs h1 vs H1 mu1 _ e1 rh1 r1 q1 => by
  obtain ⟨⟨hp, hz⟩, q2⟩ := q1.iff
  have rp := plains_of hp r1
  refine ⟨by rw [r1.length]; exact hz, fun p hp => ?_⟩
  have e0 : Ext mu1 H1 (mu1 ++ [p]) (upd H1 p (.lst vs)) := ⟨upd_mono hp, fun b u q _ => by rw [upd_ne (ne_of_none q hp)]; exact q, ⟨[p], rfl, fun a ha => by rw [List.mem_singleton] at ha; subst ha; exact hp⟩, fun b q => by
    by_cases z : b = p
    · subst z; rw [upd_same]; simp
    · rw [upd_ne z]; exact q⟩
  obtain ⟨e2, rh2⟩ := rh1.add (g := .lst xs) hp ⟨vs, upd_same, rp.imp fun _ _ z => z.ext e0⟩
  exact q2 _ _ _ e2 rh2 ⟨p, by rw [← rh1.len, List.getElem?_append_right (Nat.le_refl _)]; simp, rfl⟩⟩⟩
/-- x[i] = e, x a list of the logical heap -/
def sSub (fo fi fe : DS → LH → Out SV) : SF := fun ds h => (fe ds h).so ds fun s h1 => (fo ds h1).so ds fun x h2 => (fi ds h2).so ds fun k h3 =>
  orBadS (both (refLst h3 x) (asInt k)) fun p => orBadS (ixN p.1.2.length p.2) fun j => iffS (plainS s = true) (.nx ds (h3.set p.1.1 (.lst (p.1.2.set j s))))
theorem RelH.put {K : PySem.W.Frag} {H : Hp} {mu : List Addr} {h : LH} (r : RelH K H mu h) {m : Nat} {a : Addr} {o : HO} {g : GO} (ha : mu[m]? = some a) (e : Ext mu H mu (upd H a o)) (k : RelGO K (upd H a o) mu a g) : RelH K (upd H a o) mu (h.set m g) where
  len := by rw [List.length_set]; exact r.len
  nd := r.nd
  at_ := fun n b o' h1 h2 => by
    by_cases z : m = n
    · subst z
      rw [ha] at h1
      cases h1
      rw [List.getElem?_set_self (by rw [← r.len]; exact (List.getElem?_eq_some_iff.mp ha).1)] at h2
      cases h2
      exact k
    · rw [List.getElem?_set_ne z] at h2
      have hb : b ≠ a := fun w => by
        subst w
        obtain ⟨l1, l2⟩ := List.getElem?_eq_some_iff.mp ha
        obtain ⟨l3, l4⟩ := List.getElem?_eq_some_iff.mp h1
        exact z ((List.getElem_inj r.nd).mp (l2.trans l4.symm))
      exact (r.at_ n b o' h1 h2).keep (fun u q => by rw [upd_ne hb]; exact q) fun _ _ q => q.ext e
theorem ext_mu {mu : List Addr} {H : Hp} {a : Addr} {xs ys : List V} (m : a ∈ mu) (e : H a = some (.lst xs)) : Ext mu H mu (upd H a (.lst ys)) :=
  ⟨mono_setL e, fun b u q hb => by rw [upd_ne (fun z => hb (by rw [z]; exact m))]; exact q, ⟨[], by simp, by simp⟩, fun b q => by
    by_cases z : b = a
    · subst z; rw [upd_same]; simp
    · rw [upd_ne z]; exact q⟩
theorem pm_sub {ix : Expr} {tpos : Pos} (ho : EM X W o fo) (hi : EM X W ix fi) (he : EM X W e fe)
    (ha : ∀ v, assign (.Subscript o ix tpos) X.env v = (do
      let ov ← holding [v] (eval o X.env)
      let iv ← holding [v, ov] (eval ix X.env)
      standAt tpos
      holding [v, ov, iv] (setItem ov iv v)
      release [v, ov, iv] []) := by intro _; rfl)
    (hs : swapsWithSole [.Subscript o ix tpos] e pos.line X.env = pure false := by rfl) (hw : swappedStores [.Subscript o ix tpos] e X.env = pure none := by rfl)
    (h1 : (assignEach [.Subscript o ix tpos] X.env).map (·.2) = [assign (.Subscript o ix tpos) X.env] := by rfl) : PM X W mu0 (.Assign [.Subscript o ix tpos] e pos) (sSub fo fi fe) :=
  ⟨PS.imp (ps_asg he.pe (pg_sub ho.pe hi.pe set_list ha) hs hw h1) fun E st H ⟨ds, mu, h, r, q⟩ =>
    ⟨ds, mu, h, r.rs, r.rh, LS.expr r q fun s h1 v H1 mu1 _ e1 r1 rv q1 => ⟨ds, mu1, h1, r1.rs, r1.rh, LS.expr r1 q1 fun x h2 ov H2 mu2 _ e2 r2 ro q2 => ⟨ds, mu2, h2, r2.rs, r2.rh, LS.expr r2 q2 fun k h3 iv H3 mu3 _ e3 r3 ri q3 => by
      obtain ⟨p, ep, q4⟩ := q3.orBad
      obtain ⟨j, ej, q5⟩ := q4.orBad
      obtain ⟨hp, q6⟩ := q5.iff
      obtain ⟨e4, e5⟩ := both_of ep
      obtain ⟨a, vs, rfl, hm, hh, hl, rr⟩ := refLst_rel e4 r3.rh (ro.ext e3)
      have hmem : a ∈ mu3 := List.mem_of_getElem? hm
      have ex := ext_mu (ys := vs.set j v) hmem hl
      have rv3 := (rv.ext e2).ext e3
      have pv : RelPV X.K H3 mu3 v s := ⟨(by cases s <;> first | trivial | cases hp), rv3⟩
      refine ⟨a, vs, _, j, rfl, asInt_rel e5 ri, hl, by rw [rr.length]; exact ej, q6 st _ mu3 (r3.step ex ?_) ex.mono⟩
      exact r3.rh.put hm ex ⟨_, upd_same, All2.set (pv.ext ex) j (rr.imp fun _ _ z => z.ext ex)⟩⟩⟩⟩⟩

/-! ### a def of the text -/
def runOf (m : Nat) (fb : SF) : RF := fun xs h => match fb (xs.map some ++ List.replicate (m - xs.length) none) h with
  | .nx _ h' => .ok (.val .none) h'
  | .rt s h' => .ok s h'
  | .exc x _ h' => .exc x h'
  | _ => .bad
end
section
variable {P : Program} {w : World} {K : PySem.W.Frag} {mg : Str → Option Value} {base : Heap}
theorem start_rel {K : PySem.W.Frag} {mg : Str → Option Value} {H : Hp} {mu : List Addr} {N : List Str} {vs : List V} {ss : List SV} (r : All2 (RelSV K H mu) vs ss) (hh : ∀ s ∈ ss, Hand s) : RelS K mg [] H mu (L2.start N vs) (ss.map some ++ List.replicate (N.length - ss.length) none) := by
  have key : ∀ (i : Nat) (s : SV), (ss.map some ++ List.replicate (N.length - ss.length) none)[i]? = some (some s) → ss[i]? = some s := fun i s h => by
    by_cases hi : i < ss.length
    · rw [List.getElem?_append_left (by simpa using hi), List.getElem?_map, Option.map_eq_some_iff] at h
      obtain ⟨t, e, z⟩ := h
      cases z
      exact e
    · rw [List.getElem?_append_right (by simpa using hi), List.getElem?_replicate] at h
      split at h <;> cases h
  refine ⟨by unfold L2.start; simp [r.length], fun i s h n => ?_, fun i x h => ?_⟩
  · obtain ⟨v, ev, rv⟩ := r.get (key i s h)
    refine ⟨v, ?_, rv⟩
    unfold L2.start
    rw [List.getElem?_append_left (by simpa using (List.getElem?_eq_some_iff.mp ev).1), List.getElem?_map, ev]
    rfl
  · exact (hh _ (List.mem_of_getElem? (key i _ h))).elim
theorem fn_ok {x qual : Str} {st : Stmt} {f : Addr} {fd : FuncData} {N ps : List Str} {k : Nat} {fb : SF} (F : Fun K x qual st f fd) (S : FnScope N ps (defScope st))
    (body : ∀ (cdv : Value) (A : Around) (outer : List Env) (s : Shared) (H : Hp) (E : XK) (mu0 : List Addr), Room k (A.deeper (envOfC qual (defScope st) s.heap.objs.size f cdv)) →
      BM (cxOf (L2.CX P w) P w K mg base N qual (defScope st) f cdv A outer s H E) (fun cls d _ H => E cls d H) mu0 (defBody st) fb) :
    FnOk P w K mg base (L2.CX P w) (k + 1) f fd ps (spOf K mg ps.length (runOf N.length fb)) := by
  refine F.okX S (fun vs H Q E h => h.1) fun cdv A outer s H vs Q E hr h => ?_
  obtain ⟨hl, ss, mu, hh, rr, hand, rh, q⟩ := h
  refine ⟨_, (body cdv A outer s H E mu hr).pss, ss.map some ++ List.replicate (N.length - ss.length) none, mu, hh, ⟨start_rel rr hand, rh, .refl _ _, fun i l a h1 _ => ?_, fun i j l l' a _ h1 _ _ => ?_⟩, ?_⟩
  · have z := (start_rel (N := N) (mg := mg) rr hand).at_ i _ h1 (fun _ z => by cases z)
    have key : ss[i]? = some (.own l) := by
      by_cases hi : i < ss.length
      · rw [List.getElem?_append_left (by simpa using hi), List.getElem?_map, Option.map_eq_some_iff] at h1
        obtain ⟨t, e, z⟩ := h1
        cases z
        exact e
      · rw [List.getElem?_append_right (by simpa using hi), List.getElem?_replicate] at h1
        split at h1 <;> cases h1
    exact (hand _ (List.mem_of_getElem? key)).elim
  · have key : ss[i]? = some (.own l) := by
      by_cases hi : i < ss.length
      · rw [List.getElem?_append_left (by simpa using hi), List.getElem?_map, Option.map_eq_some_iff] at h1
        obtain ⟨t, e, z⟩ := h1
        cases z
        exact e
      · rw [List.getElem?_append_right (by simpa using hi), List.getElem?_replicate] at h1
        split at h1 <;> cases h1
    exact (hand _ (List.mem_of_getElem? key)).elim
  · unfold runOf at q
    cases eb : fb (ss.map some ++ List.replicate (N.length - ss.length) none) hh with
    | nx ds' h' =>
      rw [eb] at q
      exact fun st' H' mu' r' _ => q .non H' mu' r'.ext r'.rh Rp.non
    | rt s' h' =>
      rw [eb] at q
      exact fun v H' mu' e' rh' rv => q v H' mu' e' rh' rv
    | exc x' ds' h' =>
      rw [eb] at q
      exact fun c dd st' H' mu' r' _ rx => q c dd H' mu' r'.ext r'.rh rx
    | bk ds' h' => rw [eb] at q; exact q.elim
    | ct ds' h' => rw [eb] at q; exact q.elim
    | bad => rw [eb] at q; exact q.elim
end
theorem hU {k : Nat} {A : Around} (r : Room k A) : A.units + 150 < cLine := by have := r.un; omega
/-- the law's end: what the def gives, for every script -/
theorem law_walk {run : RF} {k : Nat} {l : PySem.W.OpenLaw} {q : Program} {loose : List Str} {XP : (Str → Option Value) → Heap → Prop} {YP : World → Heap → Prop} {d : DefRec} {K : Params → PySem.W.Frag} (hn : l.most = some 63) (hdf : d.params.defaults = []) (hr : Room k callerA)
    (hY : ∀ (w : World) (h : Heap), YP w h → (K w.params).In h)
    (F : ∀ (w : World) (mg : Str → Option Value) (fa : Addr) (h : Heap), (K w.params).In h → h.Ns mainGlobals mg → mg d.name = some (.ref fa) →
      ∃ fd : FuncData, (∀ (s : Shared) (u : Value), BindsTo s fd ⟨[u], []⟩ [("_law_script", u)]) ∧ ∀ base : Heap, (K w.params).In base → base.Ns mainGlobals mg → FnOk l.prog w (K w.params) mg base (L2.CX l.prog w) k fa fd ["_law_script"] (spOf (K w.params) mg 1 run))
    (T : ∀ ns : List Int, ns.length ≤ 63 → ∃ h', run [.scr ns] [] = .ok (.val (.bool true)) h') :
    PySem.W.WalkO q loose XP YP l.row.toRowW d [] (fun f vs => PySem.call f vs) := by
  refine Att.attach_call hn hdf fun w s₀ s₁ mg mb fa o pm cd doc a vs ns G Y ho hd hcd hmg hobj hints hlen hg => ?_
  have KX := hY w _ Y
  obtain ⟨fd, hb, hF⟩ := F w mg fa _ KX G.T.g hmg
  refine law_call KX G.T.g G.T.b G.T.builtins G.T.nolimit hg hobj hints (Nat.le_trans hlen (by decide)) hr hF hb (fun H hO hS => ?_) fun H e s' hc => ?_
  · obtain ⟨h', e⟩ := T ns hlen
    refine ⟨rfl, [.scr ns], [], [], .cons ⟨a, rfl, ?_⟩ .nil, fun s hs => by rw [List.mem_singleton] at hs; subst hs; trivial, relH_nil _ H, ?_⟩
    · rcases hS with (hS | ⟨o, hS⟩) | hS
      · rcases hO a with z | ⟨o', xs, z⟩
        · rw [hS] at z; cases z
        · rw [hS] at z; cases z
      · exact .inl ⟨o, hS⟩
      · exact .inr hS
    · rw [e]
      intro v H' mu' _ _ r
      cases r
      rfl
  · obtain ⟨_, _, _, _, _, _, _, _, _, _, _, _, z⟩ := hc
    exact z.elim
end U
/-! U9: more statements and expressions. -/
namespace U
open PySem PySem.Spec PyProof.Rows L2
section
variable {X : Cx} {W : WX} {mu0 : List Addr} {pos : Pos}
def sPar (i j : Nat) (fs : DS → LH → Out (List SV)) : SF := fun ds h => (fs ds h).so ds fun xs h1 => orBadS (arg2 xs) fun p => iffS ((storeB p.1 && storeB p.2) = true) (.nx ((ds.set i (some p.1)).set j (some p.2)) h1)
theorem pm_par {i j : Nat} {x y : Str} {a b : Expr} {px py pt : Pos} {kt k2 pt2} {fs : DS → LH → Out (List SV)} (hc : X.calm = true) (hN : X.N.Nodup) (hi : X.N[i]? = some x) (hj : X.N[j]? = some y) (hij : i ≠ j)
    (hx : X.env.scope.names.lookup x = some .local) (hy : X.env.scope.names.lookup y = some .local) (ha : AM X W [a, b] fs)
    (hw : swappedStores [.Tuple [.Name x px, .Name y py] kt pt] (.Tuple [a, b] k2 pt2) X.env = pure (some [x, y]) := by rfl)
    (hs : swapsWithSole [.Tuple [.Name x px, .Name y py] kt pt] (.Tuple [a, b] k2 pt2) pos.line X.env = pure false := by rfl) :
    PM X W mu0 (.Assign [.Tuple [.Name x px, .Name y py] kt pt] (.Tuple [a, b] k2 pt2) pos) (sPar i j fs) := ⟨PS.imp (ps_par hc hN hi hj hij hx hy ha.pa hw hs) fun E st H ⟨ds, mu, h, r, q⟩ =>
  ⟨ds, mu, h, r.rs, r.rh, LS.expr r q fun ss h1 vs H1 mu1 _ e1 r1 rv q1 => by
    obtain ⟨p, e, q2⟩ := q1.orBad
    obtain ⟨hz, q3⟩ := q2.iff
    rw [Bool.and_eq_true] at hz
    obtain ⟨p1, p2⟩ := p
    obtain ⟨rfl⟩ : ss = [p1, p2] := by
      match ss, e with
      | [a, b], e => cases e; rfl
    cases rv with
    | cons t1 t =>
      cases t with
      | cons t2 t =>
        cases t
        exact ⟨_, _, rfl, q3 _ H1 mu1 ((r1.set hz.1 t1).set hz.2 t2) (.refl _)⟩⟩⟩
end
end U
/-! P0: laws of the functions over data. -/
namespace U
open PySem PySem.Spec PyProof.Rows L2

@[simp] theorem slot_val {ds : DS} {i : Nat} {d : D} (h : ds[i]? = some (some (.val d))) : slot ds i = some (.val d) := by unfold slot; rw [h]
@[simp] theorem slot_c0 (s : SV) (r : DS) : slot (some s :: r) 0 = (match s with | .exc _ => none | s => some s) := by cases s <;> rfl
@[simp] theorem slot_cs (s : Option SV) (r : DS) (i : Nat) : slot (s :: r) (i + 1) = slot r i := (rfl)
@[simp] theorem iff_t {α : Type} {c : Prop} [Decidable c] (h : c) (o : Out α) : iff c o = o := if_pos h
/-- a comprehension whose parts leave the heap alone -/
theorem compL_map {tg : D → DS → Option DS} {tt : DS → LH → Out Bool} {fe : DS → LH → Out SV} {ds : DS} {h : LH} (g : D → D) (p : D → Bool) : ∀ items : List D,
    (∀ x ∈ items, ∃ ds1, tg x ds = some ds1 ∧ tt ds1 h = .ok (p x) h ∧ (p x = true → fe ds1 h = .ok (.val (g x)) h)) → compL tg tt fe ds items h = .ok ((items.filter p).map g) h
  | [], _ => rfl
  | x :: r, H => by
    obtain ⟨ds1, e1, e2, e3⟩ := H x (List.mem_cons_self)
    have ih := compL_map g p r fun y hy => H y (List.mem_cons_of_mem _ hy)
    unfold compL
    rw [e1, orBad_some, e2, Out.calm_ok, Out.bind_ok]
    cases q : p x with
    | true =>
      show ((fe ds1 h).calm.bind _) = _
      rw [e3 q, Out.calm_ok, Out.bind_ok]
      show ((compL tg tt fe ds r h).bind _) = _
      rw [ih, Out.bind_ok, List.filter_cons_of_pos q, List.map_cons]
    | false =>
      show compL tg tt fe ds r h = _
      rw [ih, List.filter_cons_of_neg (by rw [q]; exact Bool.false_ne_true)]
theorem compL_all {tg : D → DS → Option DS} {fe : DS → LH → Out SV} {ds : DS} {h : LH} (g : D → D) (items : List D)
    (H : ∀ x ∈ items, ∃ ds1, tg x ds = some ds1 ∧ fe ds1 h = .ok (.val (g x)) h) : compL tg tYes' fe ds items h = .ok (items.map g) h := by
  have := compL_map (tt := tYes') (h := h) g (fun _ => true) items fun x hx => let ⟨ds1, e1, e2⟩ := H x hx; ⟨ds1, e1, rfl, fun _ => e2⟩
  rw [this, List.filter_eq_self.mpr fun _ _ => rfl]
@[simp] theorem u_eVar (i : Nat) (ds : DS) (h : LH) : eVar i ds h = orBad (slot ds i) fun s => .ok s h := (rfl)
@[simp] theorem u_eC (d : D) (ds : DS) (h : LH) : eC d ds h = .ok (.val d) h := (rfl)
@[simp] theorem u_eBin (g : SV → SV → LH → Out SV) (fa fb : DS → LH → Out SV) (ds : DS) (h : LH) : eBin g fa fb ds h = (fa ds h).bind fun x h1 => (fb ds h1).bind fun y h2 => g x y h2 := (rfl)
@[simp] theorem u_eArgs (g : List SV → LH → Out SV) (fs : DS → LH → Out (List SV)) (ds : DS) (h : LH) : eArgs g fs ds h = (fs ds h).bind g := (rfl)
@[simp] theorem u_aNil (ds : DS) (h : LH) : aNil ds h = .ok [] h := (rfl)
@[simp] theorem u_aCons (fa : DS → LH → Out SV) (fs : DS → LH → Out (List SV)) (ds : DS) (h : LH) : aCons fa fs ds h = (fa ds h).bind fun x h1 => (fs ds h1).bind fun xs h2 => .ok (x :: xs) h2 := (rfl)
@[simp] theorem u_eUn (g : SV → LH → Out SV) (fa : DS → LH → Out SV) (ds : DS) (h : LH) : eUn g fa ds h = (fa ds h).bind g := (rfl)
@[simp] theorem u_eIf (t : DS → LH → Out Bool) (fa fb : DS → LH → Out SV) (ds : DS) (h : LH) : eIf t fa fb ds h = (t ds h).bind fun b h1 => match b with | true => fa ds h1 | false => fb ds h1 := (rfl)
@[simp] theorem u_eChain (g g' : SV → SV → LH → Out SV) (fa fb fc : DS → LH → Out SV) (ds : DS) (h : LH) : eChain g g' fa fb fc ds h = (fa ds h).bind fun x h1 => (fb ds h1).bind fun y h2 => (g x y h2).bind fun z h3 => orBad (asBool z) fun k => match k with | true => (fc ds h3).bind fun w h4 => g' y w h4 | false => .ok (.val (.bool false)) h3 := (rfl)
@[simp] theorem u_eAndV (fa fb : DS → LH → Out SV) (ds : DS) (h : LH) : eAndV fa fb ds h = (fa ds h).bind fun x h1 => orBad (asBool x) fun b => match b with | true => fb ds h1 | false => .ok (.val (.bool false)) h1 := (rfl)
@[simp] theorem u_eOrV (fa fb : DS → LH → Out SV) (ds : DS) (h : LH) : eOrV fa fb ds h = (fa ds h).bind fun x h1 => orBad (asBool x) fun b => match b with | true => .ok (.val (.bool true)) h1 | false => fb ds h1 := (rfl)
@[simp] theorem u_eNotV (fa : DS → LH → Out SV) (ds : DS) (h : LH) : eNotV fa ds h = (fa ds h).bind fun x h1 => orBad (asBool x) fun b => .ok (.val (.bool (!b))) h1 := (rfl)
@[simp] theorem u_eFz (f : DS → LH → Out (List D)) (ds : DS) (h : LH) : eFz f ds h = (f ds h).bind fun l h1 => .ok (.val (.list l)) h1 := (rfl)
@[simp] theorem u_eArgsF (fs : DS → LH → Out (List SV)) (ds : DS) (h : LH) : eArgsF fs ds h = (fs ds h).bind fun xs h1 => orBad (asVals xs) fun ds => iff (ds.length ≤ sizeLine) (.ok ds h1) := (rfl)
@[simp] theorem u_eSl (fa : DS → LH → Out SV) (fl fu : DS → LH → Out (Option Int)) (ds : DS) (h : LH) : eSl fa fl fu ds h = (fa ds h).bind fun x h1 => (fl ds h1).bind fun lo h2 => (fu ds h2).bind fun hi h3 => gSl x lo hi h3 := (rfl)
@[simp] theorem u_oNone (ds : DS) (h : LH) : oNone ds h = .ok none h := (rfl)
@[simp] theorem u_oSome (fa : DS → LH → Out SV) (ds : DS) (h : LH) : oSome fa ds h = (fa ds h).bind fun x h1 => orBad (asInt x) fun i => .ok (some i) h1 := (rfl)
@[simp] theorem u_eIsi (T : String) (fa : DS → LH → Out SV) (ds : DS) (h : LH) : eIsi T fa ds h = (fa ds h).bind fun x h1 => orBad (isiS T x) fun b => .ok (.val (.bool b)) h1 := (rfl)
@[simp] theorem u_eS1 (g : Str → SV → LH → Out SV) (fo fe : DS → LH → Out SV) (ds : DS) (h : LH) : eS1 g fo fe ds h = (fo ds h).bind fun x h1 => orBad (asStr x) fun a => (fe ds h1).bind fun y h2 => g a y h2 := (rfl)
@[simp] theorem u_tOf (f : DS → LH → Out SV) (ds : DS) (h : LH) : tOf f ds h = (f ds h).bind fun x h1 => orBad (asBool x) fun b => .ok b h1 := (rfl)
@[simp] theorem u_tAnd_ (fa fb : DS → LH → Out Bool) (ds : DS) (h : LH) : tAnd' fa fb ds h = (fa ds h).bind fun b h1 => match b with | true => fb ds h1 | false => .ok false h1 := (rfl)
@[simp] theorem u_tOr_ (fa fb : DS → LH → Out Bool) (ds : DS) (h : LH) : tOr' fa fb ds h = (fa ds h).bind fun b h1 => match b with | true => .ok true h1 | false => fb ds h1 := (rfl)
@[simp] theorem u_tNot_ (fa : DS → LH → Out Bool) (ds : DS) (h : LH) : tNot' fa ds h = (fa ds h).bind fun b h1 => .ok (!b) h1 := (rfl)
@[simp] theorem u_tTru (f : DS → LH → Out SV) (ds : DS) (h : LH) : tTru f ds h = (f ds h).bind fun x h1 => orBad (tru x) fun b => .ok b h1 := (rfl)
@[simp] theorem u_tYes_ (ds : DS) (h : LH) : tYes' ds h = .ok true h := (rfl)
@[simp] theorem u_iSeq (f : DS → LH → Out SV) (ds : DS) (h : LH) : iSeq f ds h = (f ds h).bind fun x h1 => orBad (asFix x) fun l => .ok l h1 := (rfl)
@[simp] theorem u_iStr_ (f : DS → LH → Out SV) (ds : DS) (h : LH) : iStr' f ds h = (f ds h).bind fun x h1 => orBad (asStr x) fun l => .ok (signs l) h1 := (rfl)
@[simp] theorem u_iRange1 (fs : DS → LH → Out (List SV)) (ds : DS) (h : LH) : iRange1 fs ds h = (fs ds h).bind fun xs h1 => orBad (arg1 xs) fun x => orBad (asInt x) fun j => iff (okR j) (.ok (rangeD 0 j.toNat) h1) := (rfl)
@[simp] theorem u_sNil (ds : DS) (h : LH) : sNil ds h = .nx ds h := (rfl)
@[simp] theorem u_sSeq (f g : SF) (ds : DS) (h : LH) : sSeq f g ds h = match f ds h with | .nx ds' h' => g ds' h' | o => o := (rfl)
@[simp] theorem u_sExpr (fe : DS → LH → Out SV) (ds : DS) (h : LH) : sExpr fe ds h = (fe ds h).so ds fun _ h1 => .nx ds h1 := (rfl)
@[simp] theorem u_sRet (fe : DS → LH → Out SV) (ds : DS) (h : LH) : sRet fe ds h = (fe ds h).so ds fun s h1 => iffS (plainS s = true) (.rt s h1) := (rfl)
@[simp] theorem u_sRetN (ds : DS) (h : LH) : sRetN ds h = .rt (.val .none) h := (rfl)
@[simp] theorem u_sIf (t : DS → LH → Out Bool) (f g : SF) (ds : DS) (h : LH) : sIf t f g ds h = (t ds h).so ds fun b h1 => match b with | true => f ds h1 | false => g ds h1 := (rfl)
@[simp] theorem u_sSet (i : Nat) (fe : DS → LH → Out SV) (ds : DS) (h : LH) : sSet i fe ds h = (fe ds h).so ds fun s h1 => iffS (storeB s = true) (.nx (ds.set i (some s)) h1) := (rfl)
@[simp] theorem u_sOwn (i : Nat) (fl : DS → LH → Out (List D)) (ds : DS) (h : LH) : sOwn i fl ds h = (fl ds h).so ds fun l h1 => .nx (ds.set i (some (.own l))) h1 := (rfl)
@[simp] theorem u_sApp (i : Nat) (fe : DS → LH → Out SV) (ds : DS) (h : LH) : sApp i fe ds h = orBadS (ownAt ds i) fun l => (fe ds h).so ds fun s h1 => orBadS (asVal s) fun d => iffS (l.length < sizeLine) (.nx (ds.set i (some (.own (l ++ [d])))) h1) := (rfl)
@[simp] theorem u_sExt (i : Nat) (fe : DS → LH → Out SV) (ds : DS) (h : LH) : sExt i fe ds h = orBadS (ownAt ds i) fun l => (fe ds h).so ds fun s h1 => orBadS (asLst s) fun l2 => iffS (l.length + l2.length ≤ sizeLine) (.nx (ds.set i (some (.own (l ++ l2)))) h1) := (rfl)
@[simp] theorem u_sAug (i : Nat) (fe : DS → LH → Out SV) (ds : DS) (h : LH) : sAug i fe ds h = orBadS ((slot ds i).bind asInt) fun k => (fe ds h).so ds fun s h1 => orBadS (asInt s) fun j => .nx (ds.set i (some (.val (.int (k + j))))) h1 := (rfl)
@[simp] theorem u_sTg (ftg : D → DS → Option DS) (fe : DS → LH → Out SV) (ds : DS) (h : LH) : sTg ftg fe ds h = (fe ds h).so ds fun s h1 => orBadS (asVal s) fun d => orBadS (ftg d ds) fun ds' => .nx ds' h1 := (rfl)
@[simp] theorem u_sFor (fi : DS → LH → Out (List D)) (ftg : D → DS → Option DS) (fb : SF) (ds : DS) (h : LH) : sFor fi ftg fb ds h = (fi ds h).so ds fun items h1 => forL ftg fb items ds h1 := (rfl)
@[simp] theorem u_sSub (fo fi fe : DS → LH → Out SV) (ds : DS) (h : LH) : sSub fo fi fe ds h = (fe ds h).so ds fun s h1 => (fo ds h1).so ds fun x h2 => (fi ds h2).so ds fun k h3 => orBadS (both (refLst h3 x) (asInt k)) fun p => orBadS (ixN p.1.2.length p.2) fun j => iffS (plainS s = true) (.nx ds (h3.set p.1.1 (.lst (p.1.2.set j s)))) := (rfl)
@[simp] theorem u_sRaise (x : Str) (ds : DS) (h : LH) : sRaise x ds h = .exc ⟨x, []⟩ ds h := (rfl)
@[simp] theorem u_tgName (i : Nat) (d : D) (ds : DS) : tgName i d ds = if i < ds.length then some (ds.set i (some (.val d))) else none := (rfl)
@[simp] theorem u_tgsNil (ds : DS) : tgsNil [] ds = some ds := (rfl)
@[simp] theorem u_nArgs (n : Nat) (g : List SV → LH → Out SV) (xs : List SV) (h : LH) : nArgs n g xs h = iff (xs.length = n) (g xs h) := (rfl)
@[simp] theorem u_fLc (fi : DS → LH → Out (List D)) (tg : D → DS → Option DS) (tt : DS → LH → Out Bool) (fe : DS → LH → Out SV) (vs : List Nat) (ds : DS) (h : LH) : fLc fi tg tt fe vs ds h = (fi ds h).bind fun items h1 => iff (items.length ≤ sizeLine) (compL tg tt fe (dwipe ds vs) items h1) := (rfl)
@[simp] theorem u_tgsCons (f : D → DS → Option DS) (g : List D → DS → Option DS) (d : D) (r : List D) (ds : DS) : tgsCons f g (d :: r) ds = match f d ds with | some ds' => g r ds' | none => none := (rfl)
@[simp] theorem u_tgTup (n : Nat) (g : List D → DS → Option DS) (l : List D) (ds : DS) : tgTup n g (.tuple l) ds = if l.length = n then g l ds else none := (rfl)
@[simp] theorem u_sFz (i : Nat) (f : SF) (ds : DS) (h : LH) : sFz i f ds h = orBadS (ownAt ds i) fun l => f (ds.set i (some (.val (.list l)))) h := (rfl)
@[simp] theorem iff_True {α : Type} [Decidable True] (o : Out α) : iff True o = o := if_pos trivial
@[simp] theorem iffS_True [Decidable True] (o : SO) : iffS True o = o := if_pos trivial
@[simp] theorem u_plain_v (d : D) : plainS (.val d) = true := (rfl)
@[simp] theorem u_plain_r (n : Nat) : plainS (.ref n) = true := (rfl)
@[simp] theorem u_store_v (d : D) : storeB (.val d) = true := (rfl)
@[simp] theorem u_store_r (n : Nat) : storeB (.ref n) = true := (rfl)
@[simp] theorem u_hand_v (d : D) : handB (.val d) = true := (rfl)
@[simp] theorem u_hand_r (n : Nat) : handB (.ref n) = true := (rfl)
@[simp] theorem u_hand_s (n : List Int) : handB (.scr n) = true := (rfl)
@[simp] theorem u_own0 (l : List D) (r : DS) : ownAt (some (.own l) :: r) 0 = some l := (rfl)
@[simp] theorem u_ownS (s : Option SV) (r : DS) (i : Nat) : ownAt (s :: r) (i + 1) = ownAt r i := (rfl)
/-! ### operations on what is known -/
theorem gC_ok {C g : D → D → Bool} {d e : D} (hc : C d e = true) (h : LH) : gC C g (SV.val d) (SV.val e) h = .ok (SV.val (PyData.bool (g d e))) h := by
  show iff (C d e = true) (Out.ok (SV.val (PyData.bool (g d e))) h) = _
  exact if_pos hc
theorem bool_int {b : Bool} {i j : Int} (e : b = decide (i < j)) (h : LH) : (Out.ok (SV.val (PyData.bool (!b))) h : Out SV) = Out.ok (SV.val (PyData.bool (decide (j ≤ i)))) h := by
  rw [e]
  by_cases q : i < j
  · rw [decide_eq_true q, decide_eq_false (by omega : ¬ j ≤ i)]; rfl
  · rw [decide_eq_false q, decide_eq_true (by omega : j ≤ i)]; rfl
@[simp] theorem gLe_int (i j : Int) (h : LH) : gLe (.val (.int i)) (.val (.int j)) h = .ok (.val (.bool (decide (i ≤ j)))) h :=
  (gC_ok rfl h).trans (bool_int (PySem.W.dataLt_int _ _) h)
@[simp] theorem gGe_int (i j : Int) (h : LH) : gGe (.val (.int i)) (.val (.int j)) h = .ok (.val (.bool (decide (j ≤ i)))) h :=
  (gC_ok rfl h).trans (bool_int (PySem.W.dataLt_int _ _) h)
@[simp] theorem gLt_int (i j : Int) (h : LH) : gLt (.val (.int i)) (.val (.int j)) h = .ok (.val (.bool (decide (i < j)))) h :=
  (gC_ok rfl h).trans (by rw [PySem.W.dataLt_int])
@[simp] theorem gGt_int (i j : Int) (h : LH) : gGt (.val (.int i)) (.val (.int j)) h = .ok (.val (.bool (decide (j < i)))) h :=
  (gC_ok rfl h).trans (by rw [PySem.W.dataLt_int])
theorem eqv_int (i j : Int) : PyData.eqv (.int i) (.int j) = decide (i = j) := (rfl)
theorem eqv_str (i j : Str) : PyData.eqv (.str i) (.str j) = decide (i = j) := (rfl)
@[simp] theorem gEq_int (i j : Int) (h : LH) : gEq (.val (.int i)) (.val (.int j)) h = .ok (.val (.bool (decide (i = j)))) h :=
  (gC_ok rfl h).trans (by rw [eqv_int])
@[simp] theorem gNe_int (i j : Int) (h : LH) : gNe (.val (.int i)) (.val (.int j)) h = .ok (.val (.bool (!decide (i = j)))) h :=
  (gC_ok rfl h).trans (by rw [eqv_int])
@[simp] theorem gEq_str (i j : Str) (h : LH) : gEq (.val (.str i)) (.val (.str j)) h = .ok (.val (.bool (decide (i = j)))) h :=
  (gC_ok rfl h).trans (by rw [eqv_str])
@[simp] theorem gNe_str (i j : Str) (h : LH) : gNe (.val (.str i)) (.val (.str j)) h = .ok (.val (.bool (!decide (i = j)))) h :=
  (gC_ok rfl h).trans (by rw [eqv_str])
theorem eqv_bool (i j : Bool) : PyData.eqv (.bool i) (.bool j) = decide (i = j) := (rfl)
@[simp] theorem gEq_bool (i j : Bool) (h : LH) : gEq (.val (.bool i)) (.val (.bool j)) h = .ok (.val (.bool (decide (i = j)))) h :=
  (gC_ok rfl h).trans (by rw [eqv_bool])
@[simp] theorem gAdd_int (i j : Int) (h : LH) : gAdd (.val (.int i)) (.val (.int j)) h = .ok (.val (.int (i + j))) h := (rfl)
@[simp] theorem gSub_int (i j : Int) (h : LH) : gSub (.val (.int i)) (.val (.int j)) h = .ok (.val (.int (i - j))) h := by
  simp only [gSub, gI, asInt, both_ss, orBad_some]
  rw [iff_t (by decide)]
theorem gMod_int {i j : Int} (hj : 0 < j) (h : LH) : gMod (.val (.int i)) (.val (.int j)) h = .ok (.val (.int (i % j))) h := by
  simp only [gMod, gI, asInt, both_ss, orBad_some]
  rw [iff_t (decide_eq_true hj)]
theorem gDiv_int {i j : Int} (h0 : 0 < j) (h1 : j < 1073741824) (h : LH) : gDiv (.val (.int i)) (.val (.int j)) h = .ok (.val (.int (i / j))) h := by
  simp only [gDiv, gI, asInt, both_ss, orBad_some]
  rw [iff_t (by rw [decide_eq_true h0, decide_eq_true h1]; rfl)]
theorem gMul_intR {i j : Int} (h0 : -(2 ^ 64) < j) (h1 : j < 2 ^ 64) (h : LH) : gMul (.val (.int i)) (.val (.int j)) h = .ok (.val (.int (i * j))) h := by
  simp only [gMul, asInt, both_ss, orNext_some]
  rw [iff_t (by unfold small; rw [decide_eq_true h0, decide_eq_true h1]; simp)]
theorem gMul_intL {i j : Int} (h0 : -(2 ^ 64) < i) (h1 : i < 2 ^ 64) (h : LH) : gMul (.val (.int i)) (.val (.int j)) h = .ok (.val (.int (i * j))) h := by
  simp only [gMul, asInt, both_ss, orNext_some]
  rw [iff_t (by unfold small; rw [decide_eq_true h0, decide_eq_true h1]; simp)]
@[simp] theorem gIs_v (neg : Bool) (d : D) (h : LH) : gIs neg (.val d) (.val .none) h = .ok (.val (.bool (neg ^^ match d with | .none => true | _ => false))) h := by
  cases d <;> rfl
@[simp] theorem gLen_str {s : Str} (hs : s.length ≤ sizeLine) (h : LH) : gLen [.val (.str s)] h = .ok (.val (.int s.length)) h := by simp [gLen, hs]
@[simp] theorem gLen_list (l : List D) (h : LH) : gLen [.val (.list l)] h = .ok (.val (.int l.length)) h := (rfl)
@[simp] theorem gLen_tuple (l : List D) (h : LH) : gLen [.val (.tuple l)] h = .ok (.val (.int l.length)) h := (rfl)
@[simp] theorem gLen_own (l : List D) (h : LH) : gLen [.own l] h = .ok (.val (.int l.length)) h := (rfl)
@[simp] theorem gLen_scr (l : List Int) (h : LH) : gLen [.scr l] h = .ok (.val (.int l.length)) h := (rfl)
@[simp] theorem gInt_int (i : Int) (h : LH) : gInt [.val (.int i)] h = .ok (.val (.int i)) h := (rfl)
@[simp] theorem gTuple_list (l : List D) (h : LH) : gTuple [.val (.list l)] h = .ok (.val (.tuple l)) h := (rfl)
theorem gAll_map (bs : List Bool) (h : LH) : gAll [.val (.list (bs.map PyData.bool))] h = .ok (.val (.bool (bs.all id))) h := by simp [gAll]
theorem gAny_map (bs : List Bool) (h : LH) : gAny [.val (.list (bs.map PyData.bool))] h = .ok (.val (.bool (bs.any id))) h := by simp [gAny]
end U
/-! P1: loops over data, general. -/
namespace U
open PySem PySem.Spec PyProof.Rows L2
/-- a loop that ends by itself -/
theorem forL_inv {ftg : D → DS → Option DS} {fb : SF} (I : Nat → DS → LH → Prop) (items : List D)
    (step : ∀ i x ds h, items[i]? = some x → I i ds h → ∃ ds1, ftg x ds = some ds1 ∧ ∃ ds2 h2, (fb ds1 h = .nx ds2 h2 ∨ fb ds1 h = .ct ds2 h2) ∧ I (i + 1) ds2 h2) :
    ∀ (n i : Nat) (ds : DS) (h : LH), i + n = items.length → I i ds h → ∃ ds' h', forL ftg fb (items.drop i) ds h = .nx ds' h' ∧ I items.length ds' h'
  | 0, i, ds, h, e, z => by
    have e1 : i = items.length := by omega
    subst e1
    rw [List.drop_length]
    exact ⟨ds, h, rfl, z⟩
  | n + 1, i, ds, h, e, z => by
    have hi : i < items.length := by omega
    obtain ⟨ds1, e1, ds2, h2, e2, z2⟩ := step i items[i] ds h (List.getElem?_eq_getElem hi) z
    obtain ⟨ds', h', e3, z3⟩ := forL_inv I items step n (i + 1) ds2 h2 (by omega) z2
    rw [List.drop_eq_getElem_cons hi]
    refine ⟨ds', h', ?_, z3⟩
    show orBadS (ftg items[i] ds) _ = _
    rw [e1]
    show (match fb ds1 h with
      | .nx ds2 h2 => forL ftg fb (items.drop (i + 1)) ds2 h2
      | .ct ds2 h2 => forL ftg fb (items.drop (i + 1)) ds2 h2
      | .bk ds2 h2 => .nx ds2 h2
      | o => o) = _
    rcases e2 with e2 | e2 <;> rw [e2] <;> exact e3
theorem for_inv {ftg : D → DS → Option DS} {fb : SF} (I : Nat → DS → LH → Prop) {items : List D} {ds : DS} {h : LH} (z : I 0 ds h)
    (step : ∀ i x ds h, items[i]? = some x → I i ds h → ∃ ds1, ftg x ds = some ds1 ∧ ∃ ds2 h2, (fb ds1 h = .nx ds2 h2 ∨ fb ds1 h = .ct ds2 h2) ∧ I (i + 1) ds2 h2) :
    ∃ ds' h', forL ftg fb items ds h = .nx ds' h' ∧ I items.length ds' h' := by
  have := forL_inv I items step items.length 0 ds h (by omega) z
  rwa [List.drop_zero] at this
theorem sq_nx {f g : SF} {ds ds1 : DS} {h h1 : LH} {r : SO} (e : f ds h = .nx ds1 h1) (k : g ds1 h1 = r) : sSeq f g ds h = r := by unfold sSeq; rw [e]; exact k
theorem sq_rt {f g : SF} {ds : DS} {s : SV} {h h1 : LH} (e : f ds h = .rt s h1) : sSeq f g ds h = .rt s h1 := by unfold sSeq; rw [e]
theorem for_it {fi : DS → LH → Out (List D)} {tg : D → DS → Option DS} {fb : SF} {ds : DS} {h h1 : LH} {items : List D} {r : SO} (e : fi ds h = .ok items h1) (k : forL tg fb items ds h1 = r) : sFor fi tg fb ds h = r := by unfold sFor; rw [e]; exact k
theorem tNot_ok {f : DS → LH → Out Bool} {ds : DS} {h h1 : LH} {b : Bool} (e : f ds h = .ok b h1) : tNot' f ds h = .ok (!b) h1 := by rw [u_tNot_, e, Out.bind_ok]
theorem tOr_ok {f g : DS → LH → Out Bool} {ds : DS} {h : LH} {a b : Bool} (e : f ds h = .ok a h) (k : g ds h = .ok b h) : tOr' f g ds h = .ok (a || b) h := by rw [u_tOr_, e, Out.bind_ok]; cases a; exact k; rfl
theorem tAnd_ok {f g : DS → LH → Out Bool} {ds : DS} {h : LH} {a b : Bool} (e : f ds h = .ok a h) (k : g ds h = .ok b h) : tAnd' f g ds h = .ok (a && b) h := by rw [u_tAnd_, e, Out.bind_ok]; cases a; rfl; exact k
theorem tOr_t {f g : DS → LH → Out Bool} {ds : DS} {h h1 : LH} (e : f ds h = .ok true h1) : tOr' f g ds h = .ok true h1 := by rw [u_tOr_, e]; rfl
theorem tAnd_f {f g : DS → LH → Out Bool} {ds : DS} {h h1 : LH} (e : f ds h = .ok false h1) : tAnd' f g ds h = .ok false h1 := by rw [u_tAnd_, e]; rfl
theorem tOf_ok {f : DS → LH → Out SV} {ds : DS} {h h1 : LH} {b : Bool} (e : f ds h = .ok (.val (.bool b)) h1) : tOf f ds h = .ok b h1 := by rw [u_tOf, e]; rfl
theorem tTru_b {f : DS → LH → Out SV} {ds : DS} {h h1 : LH} {b : Bool} (e : f ds h = .ok (.val (.bool b)) h1) : tTru f ds h = .ok b h1 := by rw [u_tTru, e]; rfl
theorem si_t {t : DS → LH → Out Bool} {f g : SF} {ds : DS} {h h1 : LH} {r : SO} (e : t ds h = .ok true h1) (k : f ds h1 = r) : sIf t f g ds h = r := by rw [u_sIf, e]; exact k
theorem si_f {t : DS → LH → Out Bool} {f g : SF} {ds : DS} {h h1 : LH} {r : SO} (e : t ds h = .ok false h1) (k : g ds h1 = r) : sIf t f g ds h = r := by rw [u_sIf, e]; exact k
/-- a guard: if .. return -/
theorem guard_t {t : DS → LH → Out Bool} {f g : SF} {ds : DS} {h h1 h2 : LH} {s : SV} (e : t ds h = .ok true h1) (k : f ds h1 = .rt s h2) : sSeq (sIf t f sNil) g ds h = .rt s h2 := sq_rt (si_t e k)
theorem guard_f {t : DS → LH → Out Bool} {f g : SF} {ds : DS} {h h1 : LH} {r : SO} (e : t ds h = .ok false h1) (k : g ds h1 = r) : sSeq (sIf t f sNil) g ds h = r := sq_nx (si_f e rfl) k
theorem set_ok {i : Nat} {fe : DS → LH → Out SV} {g : SF} {ds : DS} {h h1 : LH} {s : SV} {r : SO} (e : fe ds h = .ok s h1) (p : storeB s = true) (k : g (ds.set i (some s)) h1 = r) : sSeq (sSet i fe) g ds h = r :=
  sq_nx (by rw [u_sSet, e]; exact if_pos p) k
theorem ret_ok {fe : DS → LH → Out SV} {ds : DS} {h h1 : LH} {s : SV} (e : fe ds h = .ok s h1) (p : plainS s = true) : sRet fe ds h = .rt s h1 := by rw [u_sRet, e]; exact if_pos p
/-- a body's end as a call's -/
def fin : SO → Out SV
  | .nx _ h => .ok (.val .none) h
  | .rt s h => .ok s h
  | .exc x _ h => .exc x h
  | _ => .bad
@[simp] theorem fin_nx (ds : DS) (h : LH) : fin (.nx ds h) = .ok (.val .none) h := (rfl)
@[simp] theorem fin_rt (s : SV) (h : LH) : fin (.rt s h) = .ok s h := (rfl)
@[simp] theorem fin_exc (x : XV) (ds : DS) (h : LH) : fin (.exc x ds h) = .exc x h := (rfl)
theorem run_fin {m : Nat} {fb : SF} {xs : List SV} {h : LH} {ds : DS} (e : xs.map some ++ List.replicate (m - xs.length) none = ds) : runOf m fb xs h = fin (fb ds h) := by
  unfold runOf; rw [e]; cases fb ds h <;> rfl
theorem run_rt {m : Nat} {fb : SF} {xs : List SV} {h h1 : LH} {ds : DS} {s : SV} (e0 : xs.map some ++ List.replicate (m - xs.length) none = ds) (e : fb ds h = .rt s h1) : runOf m fb xs h = .ok s h1 := by
  rw [run_fin e0, e]; rfl
theorem range_get {n i : Nat} {x : D} (h : (rangeD 0 n)[i]? = some x) : i < n ∧ x = .int i := by
  unfold rangeD at h
  rw [List.getElem?_map] at h
  by_cases hi : i < n
  · rw [List.getElem?_range hi] at h
    refine ⟨hi, ?_⟩
    have := Option.some.inj h
    rw [← this]
    show PyData.int (0 + _) = _
    rw [Int.zero_add]
  · rw [List.getElem?_eq_none (by rw [List.length_range]; omega)] at h
    cases h
@[simp] theorem range_len (lo : Int) (n : Nat) : (rangeD lo n).length = n := by unfold rangeD; rw [List.length_map, List.length_range]
/-- a comprehension's invariant: heaps thread through, results collect -/
theorem compL_inv {tg : D → DS → Option DS} {tt : DS → LH → Out Bool} {fe : DS → LH → Out SV} {ds : DS} (I : List D → LH → Prop) :
    ∀ (items : List D) (h : LH) (acc : List D), I acc h →
    (∀ x acc h, x ∈ items → I acc h → ∃ ds1, tg x ds = some ds1 ∧ ∃ b h1, tt ds1 h = .ok b h1 ∧
      ((b = false ∧ I acc h1) ∨ (b = true ∧ ∃ d h2, fe ds1 h1 = .ok (.val d) h2 ∧ I (acc ++ [d]) h2))) →
    ∃ l h', compL tg tt fe ds items h = .ok l h' ∧ I (acc ++ l) h'
  | [], h, acc, z, _ => ⟨[], h, rfl, by rw [List.append_nil]; exact z⟩
  | x :: r, h, acc, z, H => by
    obtain ⟨ds1, e1, b, h1, e2, q⟩ := H x acc h (List.mem_cons_self) z
    have H' := fun y acc h hy => H y acc h (List.mem_cons_of_mem x hy)
    rcases q with ⟨rfl, z1⟩ | ⟨rfl, d, h2, e3, z1⟩
    · obtain ⟨l, h', e4, z2⟩ := compL_inv I r h1 acc z1 H'
      refine ⟨l, h', ?_, z2⟩
      unfold compL
      rw [e1, orBad_some, e2, Out.calm_ok, Out.bind_ok]
      exact e4
    · obtain ⟨l, h', e4, z2⟩ := compL_inv I r h2 (acc ++ [d]) z1 H'
      refine ⟨d :: l, h', ?_, by rw [List.append_assoc] at z2; exact z2⟩
      unfold compL
      rw [e1, orBad_some, e2, Out.calm_ok, Out.bind_ok]
      show ((fe ds1 h1).calm.bind _) = _
      rw [e3, Out.calm_ok, Out.bind_ok]
      show ((compL tg tt fe ds r h2).bind _) = _
      rw [e4, Out.bind_ok]
theorem comp_inv {tg : D → DS → Option DS} {tt : DS → LH → Out Bool} {fe : DS → LH → Out SV} {ds : DS} {items : List D} {h : LH} (I : List D → LH → Prop) (z : I [] h)
    (H : ∀ x acc h, x ∈ items → I acc h → ∃ ds1, tg x ds = some ds1 ∧ ∃ b h1, tt ds1 h = .ok b h1 ∧
      ((b = false ∧ I acc h1) ∨ (b = true ∧ ∃ d h2, fe ds1 h1 = .ok (.val d) h2 ∧ I (acc ++ [d]) h2))) :
    ∃ l h', compL tg tt fe ds items h = .ok l h' ∧ I l h' := by
  have := compL_inv I items h [] z H
  simpa using this
theorem atI_nat {α : Type} (l : List α) (i : Nat) (h : i < l.length) : atI l (i : Int) = some l[i] := by
  unfold atI ixN
  simp [h]
theorem gLst_ok {xs : List SV} {ds : List D} (e : asVals xs = some ds) (hz : ds.length ≤ sizeLine) (h : LH) : U.gLst xs h = .ok (.val (.list ds)) h := by
  unfold U.gLst
  rw [e]
  exact iff_t hz _
theorem gIxA_list {l : List D} {i : Nat} (hi : i < l.length) (h : LH) : gIxA (.val (.list l)) (.val (.int i)) h = .ok (.val l[i]) h := by
  show orBad (atI l i) _ = _
  rw [U.atI_nat l i hi]
  rfl
theorem gIxA_tuple {l : List D} {i : Nat} (hi : i < l.length) (h : LH) : gIxA (.val (.tuple l)) (.val (.int i)) h = .ok (.val l[i]) h := by
  show orBad (atI l i) _ = _
  rw [U.atI_nat l i hi]
  rfl
theorem gIxA_list0 (d : D) (l : List D) (h : LH) : gIxA (.val (.list (d :: l))) (.val (.int 0)) h = .ok (.val d) h := gIxA_list (l := d :: l) (i := 0) (by simp) h
theorem gIxA_list1 (c d : D) (l : List D) (h : LH) : gIxA (.val (.list (c :: d :: l))) (.val (.int 1)) h = .ok (.val d) h := gIxA_list (l := c :: d :: l) (i := 1) (by simp) h
/-! ### expressions whose parts are known -/
section
variable {ds : DS} {h h1 h2 h3 : LH} {x y z : SV} {r : Out SV} {fa fb fc : DS → LH → Out SV}
theorem bin_ok {g : SV → SV → LH → Out SV} (ea : fa ds h = .ok x h1) (eb : fb ds h1 = .ok y h2) (e : g x y h2 = r) : eBin g fa fb ds h = r := by rw [u_eBin, ea, Out.bind_ok, eb, Out.bind_ok]; exact e
theorem b1_ok {g : List SV → LH → Out SV} (ea : fa ds h = .ok x h1) (e : g [x] h1 = r) : eArgs g (aCons fa aNil) ds h = r := by rw [u_eArgs, u_aCons, ea]; exact e
theorem b2_ok {g : List SV → LH → Out SV} (ea : fa ds h = .ok x h1) (eb : fb ds h1 = .ok y h2) (e : g [x, y] h2 = r) : eArgs g (aCons fa (aCons fb aNil)) ds h = r := by rw [u_eArgs, u_aCons, ea, Out.bind_ok, u_aCons, eb]; exact e
theorem b3_ok {g : List SV → LH → Out SV} (ea : fa ds h = .ok x h1) (eb : fb ds h1 = .ok y h2) (ec : fc ds h2 = .ok z h3) (e : g [x, y, z] h3 = r) : eArgs g (aCons fa (aCons fb (aCons fc aNil))) ds h = r := by rw [u_eArgs, u_aCons, ea, Out.bind_ok, u_aCons, eb, Out.bind_ok, u_aCons, ec]; exact e
theorem c1_ok {g : List SV → LH → Out SV} (ea : fa ds h = .ok x h1) (e : g [x] h1 = r) : eArgs (nArgs 1 g) (aCons fa aNil) ds h = r := b1_ok ea ((iff_t rfl _).trans e)
theorem c2_ok {g : List SV → LH → Out SV} (ea : fa ds h = .ok x h1) (eb : fb ds h1 = .ok y h2) (e : g [x, y] h2 = r) : eArgs (nArgs 2 g) (aCons fa (aCons fb aNil)) ds h = r := b2_ok ea eb ((iff_t rfl _).trans e)
theorem c3_ok {g : List SV → LH → Out SV} (ea : fa ds h = .ok x h1) (eb : fb ds h1 = .ok y h2) (ec : fc ds h2 = .ok z h3) (e : g [x, y, z] h3 = r) : eArgs (nArgs 3 g) (aCons fa (aCons fb (aCons fc aNil))) ds h = r := b3_ok ea eb ec ((iff_t rfl _).trans e)
theorem s1_ok {g : Str → SV → LH → Out SV} {a : Str} (ea : fa ds h = .ok (.val (.str a)) h1) (eb : fb ds h1 = .ok y h2) (e : g a y h2 = r) : eS1 g fa fb ds h = r := by
  rw [u_eS1, ea]
  show ((fb ds h1).bind _) = _
  rw [eb]
  exact e
theorem sl_to {i : Int} (ea : fa ds h = .ok x h1) (eb : fb ds h1 = .ok (.val (.int i)) h2) (e : gSl x none (some i) h2 = r) : eSl fa oNone (oSome fb) ds h = r := by
  rw [u_eSl, ea, Out.bind_ok, u_oNone, Out.bind_ok, u_oSome, eb]; exact e
theorem sl_from {i : Int} (ea : fa ds h = .ok x h1) (eb : fb ds h1 = .ok (.val (.int i)) h2) (e : gSl x (some i) none h2 = r) : eSl fa (oSome fb) oNone ds h = r := by
  rw [u_eSl, ea, Out.bind_ok, u_oSome, eb]; exact e
end
theorem fz_ok {i : Nat} {f : SF} {ds : DS} {h : LH} {l : List D} {r : SO} (e : ownAt ds i = some l) (k : f (ds.set i (some (.val (.list l)))) h = r) : sFz i f ds h = r := by rw [u_sFz, e]; exact k
theorem okR_small {j : Int} (h0 : 0 ≤ j) (h1 : j ≤ 1000000) : okR j := by unfold okR; omega
theorem range1_ok {fa : DS → LH → Out SV} {ds : DS} {h h1 : LH} {j : Int} {l : List D} (e : fa ds h = .ok (.val (.int j)) h1) (ok : okR j) (el : rangeD 0 j.toNat = l) : iRange1 (aCons fa aNil) ds h = .ok l h1 := by
  rw [u_iRange1, u_aCons, e]
  exact (iff_t ok _).trans (by rw [el])
theorem seq_ok {fa : DS → LH → Out SV} {ds : DS} {h h1 : LH} {l : List D} (e : fa ds h = .ok (.val (.list l)) h1) : iSeq fa ds h = .ok l h1 := by rw [u_iSeq, e]; rfl
theorem app_ok {i : Nat} {fe : DS → LH → Out SV} {ds : DS} {h h1 : LH} {l : List D} {d : D} (e : fe ds h = .ok (.val d) h1) (eo : ownAt ds i = some l) (hz : l.length < sizeLine) : sApp i fe ds h = .nx (ds.set i (some (.own (l ++ [d])))) h1 := by
  rw [u_sApp, eo]
  show ((fe ds h).so _ _) = _
  rw [e]
  exact if_pos hz
theorem aCons_ok {fa : DS → LH → Out SV} {fs : DS → LH → Out (List SV)} {ds : DS} {h h1 h2 : LH} {x : SV} {xs : List SV} (ea : fa ds h = .ok x h1) (es : fs ds h1 = .ok xs h2) : aCons fa fs ds h = .ok (x :: xs) h2 := by rw [u_aCons, ea, Out.bind_ok, es]; rfl
theorem args_ok {g : List SV → LH → Out SV} {fs : DS → LH → Out (List SV)} {ds : DS} {h h1 : LH} {xs : List SV} {r : Out SV} (e : fs ds h = .ok xs h1) (k : g xs h1 = r) : eArgs g fs ds h = r := by rw [u_eArgs, e]; exact k
theorem lc_ok {fi : DS → LH → Out (List D)} {tg : D → DS → Option DS} {tt : DS → LH → Out Bool} {fe : DS → LH → Out SV} {vs : List Nat} {ds ds1 : DS} {h h1 h2 : LH} {items l : List D} (e : fi ds h = .ok items h1) (hz : items.length ≤ sizeLine)
    (ed : dwipe ds vs = ds1) (k : compL tg tt fe ds1 items h1 = .ok l h2) : fLc fi tg tt fe vs ds h = .ok l h2 := by rw [u_fLc, e, Out.bind_ok, ed]; exact (iff_t hz _).trans k
theorem fz_e {f : DS → LH → Out (List D)} {ds : DS} {h h1 : LH} {l : List D} (e : f ds h = .ok l h1) : eFz f ds h = .ok (.val (.list l)) h1 := by rw [u_eFz, e]; rfl
theorem map_vals (l : List D) : asVals (l.map SV.val) = some l := by
  induction l with
  | nil => rfl
  | cons d r ih => rw [List.map_cons, asVals, ih]; rfl
theorem gMul_list {l : List D} {i : Int} (h0 : 0 ≤ i) (h1 : i < 2 ^ 63) (hz : l.length * i.toNat ≤ sizeLine) (h : LH) : gMul (.val (.list l)) (.val (.int i)) h = .ok (.val (.list (List.replicate i.toNat l).flatten)) h := by
  show iff (0 ≤ i ∧ i < 2 ^ 63 ∧ l.length * i.toNat ≤ sizeLine) (Out.ok (SV.val (.list (List.replicate i.toNat l).flatten)) h) = _
  exact iff_t ⟨h0, h1, hz⟩ _
theorem par_ok {i j : Nat} {fs : DS → LH → Out (List SV)} {g : SF} {ds : DS} {h h1 : LH} {x y : SV} {r : SO} (e : fs ds h = .ok [x, y] h1) (p : storeB x = true) (q : storeB y = true) (k : g ((ds.set i (some x)).set j (some y)) h1 = r) : sSeq (sPar i j fs) g ds h = r :=
  sq_nx (show sPar i j fs ds h = _ from by
    unfold sPar
    rw [e]
    exact if_pos (by rw [p, q]; rfl)) k
theorem eIf_t {t : DS → LH → Out Bool} {fa fb : DS → LH → Out SV} {ds : DS} {h h1 : LH} {r : Out SV} (e : t ds h = .ok true h1) (k : fa ds h1 = r) : eIf t fa fb ds h = r := by rw [u_eIf, e]; exact k
theorem eIf_f {t : DS → LH → Out Bool} {fa fb : DS → LH → Out SV} {ds : DS} {h h1 : LH} {r : Out SV} (e : t ds h = .ok false h1) (k : fb ds h1 = r) : eIf t fa fb ds h = r := by rw [u_eIf, e]; exact k
theorem tOr_f {f g : DS → LH → Out Bool} {ds : DS} {h h1 : LH} {r : Out Bool} (e : f ds h = .ok false h1) (k : g ds h1 = r) : tOr' f g ds h = r := by rw [u_tOr_, e]; exact k
theorem tAnd_t {f g : DS → LH → Out Bool} {ds : DS} {h h1 : LH} {r : Out Bool} (e : f ds h = .ok true h1) (k : g ds h1 = r) : tAnd' f g ds h = r := by rw [u_tAnd_, e]; exact k
theorem pure_ok {run : RF} {xs : List SV} {d : D} {h' : LH} (e : run xs [] = .ok (.val d) h') (ha : xs.all isVal = true) (h : LH) : gPure run xs h = .ok (.val d) h := by
  unfold gPure
  rw [e]
  exact iff_t ha _
theorem pure_exc {run : RF} {xs : List SV} {x : XV} {h' : LH} (e : run xs [] = .exc x h') (ha : xs.all isVal = true) (h : LH) : gPure run xs h = .exc x h := by
  unfold gPure
  rw [e]
  exact iff_t ha _
theorem ok_fin {o : SO} {s : SV} {h : LH} (e : o = .rt s h) : fin o = .ok s h := by rw [e]; rfl
theorem andV_t {fa fb : DS → LH → Out SV} {ds : DS} {h h1 : LH} {r : Out SV} (ea : fa ds h = .ok (.val (.bool true)) h1) (k : fb ds h1 = r) : eAndV fa fb ds h = r := by rw [u_eAndV, ea]; exact k
theorem andV_f {fa fb : DS → LH → Out SV} {ds : DS} {h h1 : LH} (ea : fa ds h = .ok (.val (.bool false)) h1) : eAndV fa fb ds h = .ok (.val (.bool false)) h1 := by rw [u_eAndV, ea]; rfl
theorem orV_t {fa fb : DS → LH → Out SV} {ds : DS} {h h1 : LH} (ea : fa ds h = .ok (.val (.bool true)) h1) : eOrV fa fb ds h = .ok (.val (.bool true)) h1 := by rw [u_eOrV, ea]; rfl
theorem orV_f {fa fb : DS → LH → Out SV} {ds : DS} {h h1 : LH} {r : Out SV} (ea : fa ds h = .ok (.val (.bool false)) h1) (k : fb ds h1 = r) : eOrV fa fb ds h = r := by rw [u_eOrV, ea]; exact k
theorem notV_ok {fa : DS → LH → Out SV} {ds : DS} {h h1 : LH} {b : Bool} (ea : fa ds h = .ok (.val (.bool b)) h1) : eNotV fa ds h = .ok (.val (.bool (!b))) h1 := by rw [u_eNotV, ea]; rfl
theorem andV_ok {fa fb : DS → LH → Out SV} {ds : DS} {h : LH} {a b : Bool} (ea : fa ds h = .ok (.val (.bool a)) h) (eb : fb ds h = .ok (.val (.bool b)) h) : eAndV fa fb ds h = .ok (.val (.bool (a && b))) h := by
  cases a
  · exact andV_f ea
  · exact andV_t ea eb
theorem orV_ok {fa fb : DS → LH → Out SV} {ds : DS} {h : LH} {a b : Bool} (ea : fa ds h = .ok (.val (.bool a)) h) (eb : fb ds h = .ok (.val (.bool b)) h) : eOrV fa fb ds h = .ok (.val (.bool (a || b))) h := by
  cases a
  · exact orV_f ea eb
  · exact orV_t ea
theorem own_ok {i : Nat} {fl : DS → LH → Out (List D)} {g : SF} {ds : DS} {h h1 : LH} {l : List D} {r : SO} (e : fl ds h = .ok l h1) (k : g (ds.set i (some (.own l))) h1 = r) : sSeq (sOwn i fl) g ds h = r :=
  sq_nx (show sOwn i fl ds h = _ from by rw [u_sOwn, e]; rfl) k
/-- a comprehension that leaves the heap alone, item by item -/
theorem compL_map2 {α : Type} {tg : D → DS → Option DS} {fe : DS → LH → Out SV} {ds : DS} {h : LH} (f g : α → D) : ∀ l : List α,
    (∀ x ∈ l, ∃ ds1, tg (f x) ds = some ds1 ∧ fe ds1 h = .ok (.val (g x)) h) → compL tg tYes' fe ds (l.map f) h = .ok (l.map g) h
  | [], _ => rfl
  | x :: r, H => by
    obtain ⟨ds1, e1, e2⟩ := H x (List.mem_cons_self)
    have ih := compL_map2 f g r fun y hy => H y (List.mem_cons_of_mem _ hy)
    rw [List.map_cons, List.map_cons]
    unfold compL
    rw [e1, orBad_some]
    show ((fe ds1 h).calm.bind _) = _
    rw [e2, Out.calm_ok, Out.bind_ok]
    show ((compL tg tYes' fe ds (r.map f) h).bind _) = _
    rw [ih]
    rfl
theorem call_ok {run : RF} {xs : List SV} {d : D} {h h' : LH} (e : run xs h = .ok (.val d) h') (ha : xs.all handB = true) : gCall run xs h = .ok (.val d) h' := by
  unfold gCall
  rw [e]
  exact iff_t ha _
theorem call_ref {run : RF} {xs : List SV} {n : Nat} {h h' : LH} (e : run xs h = .ok (.ref n) h') (ha : xs.all handB = true) : gCall run xs h = .ok (.ref n) h' := by
  unfold gCall
  rw [e]
  exact iff_t ha _
theorem compL_cons {tg : D → DS → Option DS} {fe : DS → LH → Out SV} {ds ds1 : DS} {x d : D} {r l : List D} {h h1 h2 : LH} (et : tg x ds = some ds1) (ee : fe ds1 h = .ok (.val d) h1) (k : compL tg tYes' fe ds r h1 = .ok l h2) : compL tg tYes' fe ds (x :: r) h = .ok (d :: l) h2 := by
  unfold compL
  rw [et, orBad_some]
  show ((fe ds1 h).calm.bind _) = _
  rw [ee, Out.calm_ok, Out.bind_ok]
  show ((compL tg tYes' fe ds r h1).bind _) = _
  rw [k]
  rfl
end U
/-! T1: several except clauses, with names or without. -/
namespace U
open PySem PySem.Spec PyProof.Rows L2
/-- one clause: its class, its name's slot, what its suite asks -/
structure Cl where
  c : Value
  i : Option Nat
  ts : Addr → Value → Option Addr → TS
def putI : Option Nat → L2.St → Option V → L2.St
  | none, st, _ => st
  | some i, st, v => st.set i v
def endI (i : Option Nat) (D : Ends) : Ends := { nx := fun st H => D.nx (putI i st none) H, rt := D.rt, bk := fun st H => D.bk (putI i st none) H, ct := fun st H => D.ct (putI i st none) H }
def wCl (K : PySem.W.Frag) (Wo : WX) (D : Ends) : List Cl → WX
  | [] => Wo
  | k :: r => fun cls d st H => ∃ b, PySem.W.exmOne K cls k.c = some b ∧ (b = true → ∀ a, H a = none → k.ts a cls d (endI k.i D) (putI k.i st (some (.ref a))) H) ∧ (b = false → wCl K Wo D r cls d st H)
/-- a suite's rule in the context of its clause -/
def SuiteOk (X : Cx) (body : List Stmt) (ts : Addr → Value → Option Addr → TS) : Prop :=
  ∀ (a : Addr) (ob : Obj) (cls : Value) (d : Option Addr) (pn : List (Addr × Obj)), Zc cls d ob → (∃ fs, ob.data = .fields fs) → PSs (X.suite a ((a, ob) :: pn)) body (ts a cls d)
inductive ClsOk (X : Cx) : List ExceptHandler → List Cl → Prop
  | nil : ClsOk X [] []
  | bare {x : Str} {k : Cl} {s : Stmt} {body : List Stmt} {p q : Pos} {hs : List ExceptHandler} {l : List Cl} (hc : Names X x k.c) (hi : k.i = none) (hb : SuiteOk X (s :: body) k.ts) (r : ClsOk X hs l) :
      ClsOk X (.ExceptHandler (some (.Name x p)) none (s :: body) q :: hs) (k :: l)
  | named {x n : Str} {i : Nat} {k : Cl} {s : Stmt} {body : List Stmt} {p q : Pos} {hs : List ExceptHandler} {l : List Cl} (hc : Names X x k.c) (hi : k.i = some i) (hN : X.N[i]? = some n) (hl : X.env.kindOf n = some .local) (hb : SuiteOk X (s :: body) k.ts) (r : ClsOk X hs l) :
      ClsOk X (.ExceptHandler (some (.Name x p)) (some n) (s :: body) q :: hs) (k :: l)
/-- a caught exception's state, ahead of a clause -/
structure Air (X : Cx) (B : Heap) (sI : Shared) (pins : List (Addr × Obj)) (st : L2.St) (H : Hp) (a : Addr) (cls : Value) (d : Option Addr) (s : Shared) : Prop where
  i0 : Inv X pins st H sI
  nb : ∀ b o, sI.heap.get? b = some o → b ∉ frs X.stack → B.get? b = some o
  up : sI.heap.UpToSlots s.heap
  fl : HandSPX.FlyingZ B (X.env :: X.outer) a (Zc cls d) s.heap
  na : H a = none
  os : s.os = sI.os
  ag : AllBare s.gens
section
variable {X : Cx} {B : Heap} {sI s : Shared} {pins : List (Addr × Obj)} {st : L2.St} {H : Hp} {a : Addr} {cls : Value} {d : Option Addr}
theorem Air.inv (w : Air X B sI pins st H a cls d s) : Inv X pins st H s := w.i0.landed w.nb w.fl.1 w.up w.os w.ag
theorem Air.off (w : Air X B sI pins st H a cls d s) : ∃ ob fs, s.heap.get? a = some ob ∧ Zc cls d ob ∧ ob.data = .fields fs ∧ a ∉ frs (X.env :: X.outer) := by
  obtain ⟨ob, fs, e1, e2, e3⟩ := w.fl.there
  refine ⟨ob, fs, e1, e2, e3, fun hm => ?_⟩
  obtain ⟨m, o, e4, e5⟩ := w.fl.2.2.1.mem hm
  have := e1.symm.trans e4
  cases this
  exact e5 _ e3
theorem Air.su (hf : X.env.frame = some X.env.locals) (w : Air X B sI pins st H a cls d s) : ∃ ob, Inv (X.suite a ((a, ob) :: (X.pn ++ pins))) [] st H s ∧ Zc cls d ob ∧ (∃ fs, ob.data = .fields fs) ∧ s.heap.get? a = some ob := by
  obtain ⟨ob, fs, e1, e2, e3, no⟩ := w.off
  have n1 : a ≠ X.env.locals := fun z => no (List.mem_filterMap.mpr ⟨X.env, by simp, by rw [hf, z]⟩)
  have n2 : a ∉ X.fs := fun hm => by
    obtain ⟨v, hv, q⟩ := List.mem_filterMap.mp hm
    exact no (List.mem_filterMap.mpr ⟨v, by simp [hv], q⟩)
  exact ⟨ob, w.inv.suite e1 e3 w.na n1 n2, e2, ⟨fs, e3⟩, e1⟩
theorem Air.again {s2 : Shared} (w : Air X B sI pins st H a cls d s) (hh : s2 = { s with heap := s2.heap }) (fl : HandSPX.FlyingZ B (X.env :: X.outer) a (Zc cls d) s2.heap) (up : s.heap.UpToSlots s2.heap) : Air X B sI pins st H a cls d s2 :=
  ⟨w.i0, w.nb, w.up.trans up, fl, w.na, by rw [hh]; exact w.os, by rw [hh]; exact w.ag⟩
/-- no clause is left -/
theorem Air.fall {D : Ends} {Wo : WX} (hs : X.stack = X.env :: X.outer) (hf : X.env.frame = some X.env.locals) (tk : Takes X Wo) (w : Air X B sI pins st H a cls d s) (q : Wo cls d st H) :
    wpAny (model X.prog X.w) X.A (handleBy (.ref a) X.env []) (SP X pins D) X.xe s := by
  refine wpAny_handleBy_nil ?_
  obtain ⟨k1, k2, k3, ob, fs, T, oT, t', e1, e2, e3, e4, e5⟩ := id w.fl
  unfold PySem.passOn
  refine wpAny_bind (wpAny_field e1 e3 e4 ?_)
  have hn : ¬ ((Value.ref T == Value.none) = true) := by simp
  rw [if_neg hn]
  have key : wpAny (model X.prog X.w) X.A (setFlight (.ref a) X.env.frame) (fun _ z => wpAny (model X.prog X.w) X.A (throw (.ref a) : Sem Flow) (SP X pins D) X.xe z) X.xe s := by
    rw [hf]
    refine HandSPX.setFlight_upZ w.fl fun h4 g4 u4 => wpAny_throw (tk _ _ ⟨a, B, sI, pins, st, H, cls, d, rfl, w.i0, w.nb, w.up.trans u4, ?_, w.na, w.os, w.ag, q⟩)
    rw [hs]
    exact .inr (.inr g4)
  first
    | exact wpAny_bind (wpAny_pure (wpAny_bind key))
    | exact wpAny_bind key
/-- the clause's class -/
theorem Air.ask {k : Cl} {x : Str} {np : Pos} {ob : Obj} {pn : List (Addr × Obj)} (S : Inv (X.suite a ((a, ob) :: pn)) [] st H s) (hc : Names X x k.c) {P : Value → Shared → Prop} {F : Value → Shared → Prop} (q : P k.c s) :
    wpAny (model X.prog X.w) (X.A.mark (some (.ref a))) (eval (.Name x np) X.env) P F s := by
  obtain ⟨g, nd, m | ⟨m, v, n⟩⟩ := hc
  · exact ld_glob (X := X.suite a ((a, ob) :: pn)) S g m q nd
  · exact ld_blt (X := X.suite a ((a, ob) :: pn)) S g m v q n nd
theorem sp_out {i : Option Nat} {D : Ends} {ob : Obj} {f : Flow} {s2 : Shared} (ok : X.Ok) (hi : i = none) (h : SP (X.suite a ((a, ob) :: (X.pn ++ pins))) [] (endI i D) f s2) : SP X pins D f s2 := by
  subst hi
  cases f with
  | next => obtain ⟨st3, H3, J, q⟩ := h; exact ⟨_, _, J.unsuite ok, q⟩
  | brk => obtain ⟨st3, H3, J, q⟩ := h; exact ⟨_, _, J.unsuite ok, q⟩
  | cont => obtain ⟨st3, H3, J, q⟩ := h; exact ⟨_, _, J.unsuite ok, q⟩
  | ret u => obtain ⟨v, st3, H3, J, r, q⟩ := h; exact ⟨_, _, _, J.unsuite ok, r, q⟩
theorem sp_outN {i : Nat} {n : Str} {D : Ends} {ob : Obj} {f : Flow} {s2 : Shared} {pos : Pos} (ok : X.Ok) (nd : X.N.Nodup) (hN : X.N[i]? = some n) (hl : X.env.kindOf n = some .local) (h : SP (X.suite a ((a, ob) :: (X.pn ++ pins))) [] (endI (some i) D) f s2) :
    wpAny (model X.prog X.w) X.A (do bindName X.env n .none; unbindBehindTheSuite X.env n pos) (fun _ z => SP X pins D f z) X.xe s2 := by
  cases f with
  | next => obtain ⟨st3, H3, J, q⟩ := h; exact gone_ok (J.unsuite ok) nd hN hl fun z K => ⟨_, _, K, q⟩
  | brk => obtain ⟨st3, H3, J, q⟩ := h; exact gone_ok (J.unsuite ok) nd hN hl fun z K => ⟨_, _, K, q⟩
  | cont => obtain ⟨st3, H3, J, q⟩ := h; exact gone_ok (J.unsuite ok) nd hN hl fun z K => ⟨_, _, K, q⟩
  | ret u => obtain ⟨v, st3, H3, J, r, q⟩ := h; exact gone_ok (J.unsuite ok) nd hN hl fun z K => ⟨_, _, _, K, r, q⟩
theorem Air.run {D : Ends} {Wo : WX} (ok : X.Ok) (nd : X.N.Nodup) (hs : X.stack = X.env :: X.outer) (hf : X.env.frame = some X.env.locals) (tk : Takes X Wo) : ∀ {l : List ExceptHandler} {cs : List Cl}, ClsOk X l cs → ∀ {s : Shared}, Air X B sI pins st H a cls d s → wCl X.K Wo D cs cls d st H →
    wpAny (model X.prog X.w) X.A (handleBy (.ref a) X.env l) (SP X pins D) X.xe s := by
  intro l cs hk
  induction hk with
  | nil => exact fun w q => w.fall hs hf tk q
  | @bare x k b0 body np pos hs2 l2 hc hi hb r ih =>
    intro s w q
    obtain ⟨b, e, yes, no⟩ := q
    obtain ⟨ob, S, hz, hd, hg⟩ := w.su hf
    refine wpAny_handleBy_cons (codeAny_handlers_test ?_) (by intro z; cases z)
    have T : PySem.W.Looks (model X.prog X.w) s.heap (typeOf (.ref a)) cls := fun A Q E s' g z => wpAny_typeOf_ref (g _ _ hg) (by rw [hz.1]; exact z)
    refine Air.ask S hc ((PySem.W.exm_one (M := model X.prog X.w) w.inv.kIn T e).here ?_)
    cases b with
    | false => exact ih w (no rfl)
    | true =>
      refine codeAny_handlers_suite (HandSPX.lands_againZ w.fl fun h4 g4 u4 => ?_)
      have w4 : Air X B sI pins st H a cls d { s with heap := h4 } := w.again rfl g4 u4
      obtain ⟨ob4, S4, hz4, hd4, hg4⟩ := w4.su hf
      have y := yes rfl a w.na
      rw [hi] at y
      exact wpAny_mono ((hb a ob4 cls d (X.pn ++ pins) hz4 hd4).run [] _ _ H _ S4 y) (fun f s6 z => sp_out ok rfl z) fun _ _ z => z.elim
  | @named x n i k b0 body np pos hs2 l2 hc hi hN hl hb r ih =>
    intro s w q
    obtain ⟨b, e, yes, no⟩ := q
    obtain ⟨ob, S, hz, hd, hg⟩ := w.su hf
    refine wpAny_handleBy_cons (codeAny_handlers_test ?_) (by intro z; cases z)
    have T : PySem.W.Looks (model X.prog X.w) s.heap (typeOf (.ref a)) cls := fun A Q E s' g z => wpAny_typeOf_ref (g _ _ hg) (by rw [hz.1]; exact z)
    refine Air.ask S hc ((PySem.W.exm_one (M := model X.prog X.w) w.inv.kIn T e).here ?_)
    cases b with
    | false => exact ih w (no rfl)
    | true =>
      refine codeAny_handlers_suite_as (HandSPX.lands_againZ w.fl fun h4 g4 u4 => ?_)
      have w4 : Air X B sI pins st H a cls d { s with heap := h4 } := w.again rfl g4 u4
      obtain ⟨ob4, S4, hz4, hd4, hg4⟩ := w4.su hf
      have y := yes rfl a w.na
      rw [hi] at y
      refine store_ok (X := X.suite a ((a, ob4) :: (X.pn ++ pins))) (v := .ref a) S4 nd hN (.inl hl) rfl (fun s5 S5 => ?_) (.inr hl)
      exact wpAny_mono ((hb a ob4 cls d (X.pn ++ pins) hz4 hd4).run [] s5 _ H _ S5 y) (fun f s6 z => sp_outN ok nd hN hl z) fun _ _ z => z.elim
end
section
variable {X : Cx} {body : List Stmt} {h0 : ExceptHandler} {hds : List ExceptHandler} {l : List Cl} {pos : Pos} {tb : WX → TS} {Wo : WX}
/-- try with several clauses, named or not -/
theorem ps_tryC (nd : X.N.Nodup) (hs : X.stack = X.env :: X.outer) (hf : X.env.frame = some X.env.locals) (tk : Takes X Wo)
    (hb : ∀ (W : WX) (pn : List (Addr × Obj)) (xe : Value → Shared → Prop), Takes (X.tr pn xe) W → PassesOwn (model X.prog X.w) X.A X.env xe → PSs (X.tr pn xe) body (tb W))
    (hh : ClsOk X (h0 :: hds) l) : PS X (.Try body (h0 :: hds) [] [] pos) (fun D st H => tb (wCl X.K Wo D l) D st H) := by
  constructor
  intro pins s st H D I h
  have ok := I.ok
  have hfr : X.A.frames = some (X.env :: X.outer) := by rw [ok.frames, hs]
  refine wpAny_Try_except (wpAny_mono ((hb (wCl X.K Wo D l) (X.pn ++ pins) (fun e s1 => wpAny (model X.prog X.w) X.A (noteFrame e X.env) (fun _ s2 => wpAny (model X.prog X.w) X.A (setFlight e none) (fun _ s3 =>
    wpAny (model X.prog X.w) X.A (handleBy e X.env (h0 :: hds)) (SP X pins D) X.xe s3) X.xe s2) X.xe s1) ?_ PassesOwn.looking).run [] s st H D (I.toTry _) h) ?_ fun e s1 he => he)
  · rintro u s1 ⟨a, B, sI, p2, st2, H2, cls, d, rfl, J, nb, up, sky, na, os, ag, w⟩
    have sky2 : Sky B (X.env :: X.outer) a (Zc cls d) X.env.locals s1.heap := by rw [← hs]; exact sky
    exact Sky.land Zc.steady hfr hf sky2 fun h3 fl3 up3 => Air.run (B := B) (sI := sI) ok nd hs hf tk hh ⟨J.ofTry ok, nb, up.trans up3, fl3, na, os, ag⟩ w
  · intro f s1 z
    cases f with
    | next => obtain ⟨st2, H2, J, q⟩ := z; exact wpAny_execs_nil ⟨st2, H2, J.ofTry ok, q⟩
    | brk => obtain ⟨st2, H2, J, q⟩ := z; exact ⟨st2, H2, J.ofTry ok, q⟩
    | cont => obtain ⟨st2, H2, J, q⟩ := z; exact ⟨st2, H2, J.ofTry ok, q⟩
    | ret u => obtain ⟨v, st2, H2, J, r, q⟩ := z; exact ⟨v, st2, H2, J.ofTry ok, r, q⟩
end
end U
/-! T2: try over data. -/
namespace U
open PySem PySem.Spec PyProof.Rows L2
/-- no slot holds an error -/
def clean (ds : DS) : Bool := ds.all fun s => match s with
  | some (.exc _) => false
  | _ => true
theorem clean_at {ds : DS} (h : clean ds = true) {i : Nat} {x : XV} : ds[i]? ≠ some (some (.exc x)) := fun e => by
  have := List.all_eq_true.mp h _ (List.mem_of_getElem? e)
  cases this
theorem RelS.any {K : PySem.W.Frag} {mg : Str → Option Value} {pn pn' : List (Addr × Obj)} {H : Hp} {mu : List Addr} {st : L2.St} {ds : DS} (r : RelS K mg pn H mu st ds) (c : clean ds = true) : RelS K mg pn' H mu st ds :=
  ⟨r.len, r.at_, fun i x h => (clean_at c h).elim⟩
def putD : Option Nat → DS → Option SV → DS
  | none, ds, _ => ds
  | some i, ds, v => ds.set i v
def outS (i : Option Nat) : SO → SO
  | .nx ds h => iffS (clean (putD i ds none) = true) (.nx (putD i ds none) h)
  | .bk ds h => iffS (clean (putD i ds none) = true) (.bk (putD i ds none) h)
  | .ct ds h => iffS (clean (putD i ds none) = true) (.ct (putD i ds none) h)
  | .rt s h => .rt s h
  | _ => .bad
abbrev ClD := Str × Option Nat × SF
def catchL (sub : Str → Str → Option Bool) (x : XV) : List ClD → DS → LH → SO
  | [], ds, h => .exc x ds h
  | k :: r, ds, h => match sub x.cls k.1 with
    | some true => outS k.2.1 (k.2.2 (putD k.2.1 ds (some (.exc x))) h)
    | some false => catchL sub x r ds h
    | none => .bad
def sTry (sub : Str → Str → Option Bool) (fb : SF) (cs : List ClD) : SF := fun ds h => iffS (clean ds = true) (match fb ds h with
  | .exc x ds' h' => iffS (clean ds' = true) (catchL sub x cs ds' h')
  | .nx ds' h' => iffS (clean ds' = true) (.nx ds' h')
  | .bk ds' h' => iffS (clean ds' = true) (.bk ds' h')
  | .ct ds' h' => iffS (clean ds' = true) (.ct ds' h')
  | .rt s h' => .rt s h'
  | .bad => .bad)
section
variable {X : Cx} {mu0 : List Addr}
abbrev noW : WX := fun _ _ _ _ => False
/-- a suite's reading: whatever else is pinned -/
def tsOf (X : Cx) (mu0 : List Addr) (f : SF) (a : Addr) (cls : Value) (d : Option Addr) : TS := fun E st H => ∃ ds mu h, (∀ (ob : Obj) (pn : List (Addr × Obj)), Zc cls d ob → (∃ us, ob.data = .fields us) → RelF (X.suite a ((a, ob) :: pn)) mu0 st ds H mu h) ∧
  ∀ (ob : Obj) (pn : List (Addr × Obj)), Zc cls d ob → AfterS (X.suite a ((a, ob) :: pn)) noW mu0 H (f ds h) E
/-- the clauses -/
inductive CM (X : Cx) (mu0 : List Addr) (sub : Str → Str → Option Bool) : List ExceptHandler → List ClD → Prop
  | nil : CM X mu0 sub [] []
  | bare {x : Str} {c : Value} {s : Stmt} {body : List Stmt} {f : SF} {p q : Pos} {hs : List ExceptHandler} {l : List ClD} (hc : Names X x c) (hsub : ∀ y cls b, X.mg y = some cls → sub y x = some b → PySem.W.exmOne X.K cls c = some b)
      (hb : ∀ (a : Addr) (ob : Obj) (pn : List (Addr × Obj)), (∃ fs, ob.data = .fields fs) → BM (X.suite a ((a, ob) :: pn)) noW mu0 (s :: body) f) (r : CM X mu0 sub hs l) :
      CM X mu0 sub (.ExceptHandler (some (.Name x p)) none (s :: body) q :: hs) ((x, none, f) :: l)
  | named {x n : Str} {i : Nat} {c : Value} {s : Stmt} {body : List Stmt} {f : SF} {p q : Pos} {hs : List ExceptHandler} {l : List ClD} (hc : Names X x c) (hsub : ∀ y cls b, X.mg y = some cls → sub y x = some b → PySem.W.exmOne X.K cls c = some b)
      (hN : X.N[i]? = some n) (hl : X.env.kindOf n = some .local)
      (hb : ∀ (a : Addr) (ob : Obj) (pn : List (Addr × Obj)), (∃ fs, ob.data = .fields fs) → BM (X.suite a ((a, ob) :: pn)) noW mu0 (s :: body) f) (r : CM X mu0 sub hs l) :
      CM X mu0 sub (.ExceptHandler (some (.Name x p)) (some n) (s :: body) q :: hs) ((x, some i, f) :: l)
theorem suite_ok {s : Stmt} {body : List Stmt} {f : SF} (hb : ∀ (a : Addr) (ob : Obj) (pn : List (Addr × Obj)), (∃ fs, ob.data = .fields fs) → BM (X.suite a ((a, ob) :: pn)) noW mu0 (s :: body) f) : SuiteOk X (s :: body) (tsOf X mu0 f) :=
  fun a ob cls d pn hz hd => PSs.imp (hb a ob pn hd).pss fun E st H ⟨ds, mu, h, r, q⟩ => ⟨ds, mu, h, r ob pn hz hd, q ob pn hz⟩
/-- the data's clauses as the rule's -/
theorem CM.cls {sub : Str → Str → Option Bool} {hs : List ExceptHandler} {l : List ClD} (h : CM X mu0 sub hs l) : ∃ cs : List Cl, ClsOk X hs cs ∧
    All2 (fun (k : Cl) (e : ClD) => k.i = e.2.1 ∧ k.ts = tsOf X mu0 e.2.2 ∧ ∀ y cls b, X.mg y = some cls → sub y e.1 = some b → PySem.W.exmOne X.K cls k.c = some b) cs l := by
  induction h with
  | nil => exact ⟨[], .nil, .nil⟩
  | @bare x c s body f p q hs l hc hsub hb r ih =>
    obtain ⟨cs, h1, h2⟩ := ih
    exact ⟨⟨c, none, tsOf X mu0 f⟩ :: cs, .bare hc rfl (suite_ok hb) h1, .cons ⟨rfl, rfl, hsub⟩ h2⟩
  | @named x n i c s body f p q hs l hc hsub hN hl hb r ih =>
    obtain ⟨cs, h1, h2⟩ := ih
    exact ⟨⟨c, some i, tsOf X mu0 f⟩ :: cs, .named hc rfl hN hl (suite_ok hb) h1, .cons ⟨rfl, rfl, hsub⟩ h2⟩
theorem RelF.any {X' : Cx} {st : L2.St} {ds : DS} {H : Hp} {mu : List Addr} {h : LH} (r : RelF X mu0 st ds H mu h) (c : clean ds = true) (e1 : X'.K = X.K) (e2 : X'.mg = X.mg) (e3 : X'.H_0 = X.H_0) : RelF X' mu0 st ds H mu h :=
  ⟨by rw [e1, e2]; exact r.rs.any c, by rw [e1]; exact r.rh, by rw [e3]; exact r.ext, by rw [e3]; exact r.fresh, r.apart⟩
theorem RelF.drop {X' : Cx} {st : L2.St} {ds : DS} {H : Hp} {mu : List Addr} {h : LH} {i : Option Nat} (r : RelF X mu0 st ds H mu h) (c : clean (putD i ds none) = true) (e1 : X'.K = X.K) (e2 : X'.mg = X.mg) (e3 : X'.H_0 = X.H_0) : RelF X' mu0 (putI i st none) (putD i ds none) H mu h := by
  cases i with
  | none => exact r.any c e1 e2 e3
  | some i =>
    have ne : ∀ {j : Nat} {s : SV}, (ds.set i none)[j]? = some (some s) → i ≠ j ∧ ds[j]? = some (some s) := fun {j s} q => by
      by_cases z : i = j
      · subst z
        by_cases hl : i < ds.length
        · rw [List.getElem?_set_self hl] at q; cases q
        · rw [List.getElem?_eq_none (by rw [List.length_set]; omega)] at q; cases q
      · rw [List.getElem?_set_ne z] at q
        exact ⟨z, q⟩
    refine ⟨⟨?_, fun j s q n => ?_, fun j x q => (clean_at c q).elim⟩, by rw [e1]; exact r.rh, by rw [e3]; exact r.ext, fun j l a q q2 => ?_, fun j k l l' a hn q q1 q2 q3 => ?_⟩
    · show (st.set i none).length = (ds.set i none).length
      rw [List.length_set, List.length_set]; exact r.rs.len
    · obtain ⟨z, q⟩ := ne q
      obtain ⟨v, h1, h2⟩ := r.rs.at_ j s q n
      exact ⟨v, (List.getElem?_set_ne z).trans h1, by rw [e1]; exact h2⟩
    · obtain ⟨z, q⟩ := ne q
      rw [e3]
      exact r.fresh j l a q ((List.getElem?_set_ne z).symm.trans q2)
    · obtain ⟨z, q⟩ := ne q
      obtain ⟨z1, q1⟩ := ne q1
      exact r.apart j k l l' a hn q q1 ((List.getElem?_set_ne z).symm.trans q2) ((List.getElem?_set_ne z1).symm.trans q3)
theorem RelF.catch {X' : Cx} {st : L2.St} {ds : DS} {H : Hp} {mu : List Addr} {h : LH} {i : Option Nat} {x : XV} {a : Addr} {ob : Obj} {cls : Value} {d : Option Addr} (r : RelF X mu0 st ds H mu h) (c : clean ds = true) (e1 : X'.K = X.K) (e2 : X'.mg = X.mg) (e3 : X'.H_0 = X.H_0)
    (hz : Zc cls d ob) (hp : (a, ob) ∈ X'.pn ∧ ∃ us, ob.data = .fields us) (rx : RelX X.K X.mg H cls d x) (nm : ∀ d' fs, d = some d' → H d' = some (.xd fs) → d' ∉ mu) : RelF X' mu0 (putI i st (some (.ref a))) (putD i ds (some (.exc x))) H mu h := by
  cases i with
  | none => exact r.any c e1 e2 e3
  | some i =>
    have ne : ∀ {j : Nat} {s : SV}, (ds.set i (some (.exc x)))[j]? = some (some s) → (i = j ∧ s = .exc x ∧ i < ds.length) ∨ (i ≠ j ∧ ds[j]? = some (some s)) := fun {j s} q => by
      by_cases z : i = j
      · subst z
        by_cases hl : i < ds.length
        · rw [List.getElem?_set_self hl] at q; exact .inl ⟨rfl, (Option.some.inj (Option.some.inj q)).symm, hl⟩
        · rw [List.getElem?_eq_none (by rw [List.length_set]; omega)] at q; cases q
      · rw [List.getElem?_set_ne z] at q
        exact .inr ⟨z, q⟩
    refine ⟨⟨?_, fun j s q n => ?_, fun j y q => ?_⟩, by rw [e1]; exact r.rh, by rw [e3]; exact r.ext, fun j l b q q2 => ?_, fun j k l l' b hn q q1 q2 q3 => ?_⟩
    · show (st.set i _).length = (ds.set i _).length
      rw [List.length_set, List.length_set]; exact r.rs.len
    · rcases ne q with ⟨_, z, _⟩ | ⟨z, q⟩
      · exact (n x z).elim
      · obtain ⟨v, h1, h2⟩ := r.rs.at_ j s q n
        exact ⟨v, (List.getElem?_set_ne z).trans h1, by rw [e1]; exact h2⟩
    · rcases ne q with ⟨z, z2, hl⟩ | ⟨z, q⟩
      · subst z
        cases z2
        have hl2 : i < st.length := by rw [r.rs.len]; exact hl
        refine ⟨a, ob, List.getElem?_set_self hl2, hp, by rw [e2, hz.1]; exact rx.1, ?_⟩
        rcases rx.2 with ⟨q1, q2⟩ | ⟨d', fs, q1, q2, q3⟩
        · exact .inl ⟨hz.2.trans q1, q2⟩
        · exact .inr ⟨d', fs, ⟨hz.2.trans q1.1, q1.2⟩, q2, nm d' fs q1.1 q2, by rw [e1]; exact q3⟩
      · exact (clean_at c q).elim
    · rcases ne q with ⟨_, z2, _⟩ | ⟨z, q⟩
      · cases z2
      · rw [e3]
        exact r.fresh j l b q ((List.getElem?_set_ne z).symm.trans q2)
    · rcases ne q with ⟨_, z2, _⟩ | ⟨z, q⟩
      · cases z2
      · rcases ne q1 with ⟨_, z2, _⟩ | ⟨z1, q1⟩
        · cases z2
        · exact r.apart j k l l' b hn q q1 ((List.getElem?_set_ne z).symm.trans q2) ((List.getElem?_set_ne z1).symm.trans q3)
theorem RelH.noxd {K : PySem.W.Frag} {H : Hp} {mu : List Addr} {h : LH} (r : RelH K H mu h) {d : Addr} {fs : List (Str × V)} (e : H d = some (.xd fs)) : d ∉ mu := fun hm => by
  obtain ⟨n, hn, q⟩ := List.mem_iff_getElem.mp hm
  have hn2 : n < h.length := by rw [← r.len]; exact hn
  have k := r.at_ n d h[n] (by rw [List.getElem?_eq_getElem hn, q]) (List.getElem?_eq_getElem hn2)
  cases z : h[n] with
  | lst xs =>
    rw [z] at k
    obtain ⟨vs, k1, _⟩ := k
    rw [e] at k1
    cases k1
  | ins C gs =>
    rw [z] at k
    obtain ⟨dx, vs, k1, _⟩ := k
    rw [e] at k1
    cases k1
variable {W : WX}
theorem out_ok {i : Option Nat} {a : Addr} {ob : Obj} {pn : List (Addr × Obj)} {H H' : Hp} {o : SO} {E : Ends} (m : Mono H H') (q : AfterS X W mu0 H (outS i o) E) : AfterS (X.suite a ((a, ob) :: pn)) noW mu0 H' o (endI i E) := by
  cases o with
  | nx ds h =>
    obtain ⟨c, q⟩ := q.iff
    exact fun st2 H2 mu2 r m2 => q _ H2 mu2 (r.drop c rfl rfl rfl) (m.trans m2)
  | bk ds h =>
    obtain ⟨c, q⟩ := q.iff
    exact fun st2 H2 mu2 r m2 => q _ H2 mu2 (r.drop c rfl rfl rfl) (m.trans m2)
  | ct ds h =>
    obtain ⟨c, q⟩ := q.iff
    exact fun st2 H2 mu2 r m2 => q _ H2 mu2 (r.drop c rfl rfl rfl) (m.trans m2)
  | rt s h => exact q
  | exc x ds h => exact q.elim
  | bad => exact q.elim
theorem catch_ok {sub : Str → Str → Option Bool} {x : XV} {ds : DS} {h : LH} {H : Hp} {E : Ends} (c : clean ds = true) : ∀ {cs : List Cl} {l : List ClD},
    All2 (fun (k : Cl) (e : ClD) => k.i = e.2.1 ∧ k.ts = tsOf X mu0 e.2.2 ∧ ∀ y cls b, X.mg y = some cls → sub y e.1 = some b → PySem.W.exmOne X.K cls k.c = some b) cs l →
    AfterS X W mu0 H (catchL sub x l ds h) E → ∀ (cls : Value) (d : Option Addr) (st : L2.St) (H' : Hp) (mu : List Addr), RelF X mu0 st ds H' mu h → Mono H H' → RelX X.K X.mg H' cls d x → wCl X.K W E cs cls d st H'
  | _, _, .nil, q, cls, d, st, H', mu, r, m, rx => q cls d st H' mu r m rx
  | _, _, .cons (a := k) (b := e) ⟨k1, k2, k3⟩ t, q, cls, d, st, H', mu, r, m, rx => by
    unfold catchL at q
    cases es : sub x.cls e.1 with
    | none => rw [es] at q; exact q.elim
    | some b =>
      rw [es] at q
      refine ⟨b, k3 x.cls cls b rx.1 es, fun hb a na => ?_, fun hb => ?_⟩
      · subst hb
        rw [k1, k2]
        exact ⟨putD e.2.1 ds (some (.exc x)), mu, h, fun ob pn hz hd => r.catch c rfl rfl rfl hz ⟨List.mem_cons_self, hd⟩ rx (fun d' fs _ z => r.rh.noxd z), fun ob pn hz => out_ok m q⟩
      · subst hb
        exact catch_ok c t q cls d st H' mu r m rx
/-- try over data -/
theorem pm_try {sub : Str → Str → Option Bool} {fb : SF} {cs : List ClD} {body : List Stmt} {h0 : ExceptHandler} {hds : List ExceptHandler} {pos : Pos} (nd : X.N.Nodup) (hs : X.stack = X.env :: X.outer) (hf : X.env.frame = some X.env.locals) (tk : Takes X W)
    (hb : ∀ (W' : WX) (pn : List (Addr × Obj)) (xe : Value → Shared → Prop), Takes (X.tr pn xe) W' → PassesOwn (model X.prog X.w) X.A X.env xe → BM (X.tr pn xe) W' mu0 body fb)
    (hh : CM X mu0 sub (h0 :: hds) cs) : PM X W mu0 (.Try body (h0 :: hds) [] [] pos) (sTry sub fb cs) := by
  obtain ⟨l, hl, ha⟩ := hh.cls
  refine ⟨PS.imp (ps_tryC (tb := fun W' E st H => ∃ ds mu h, (∀ pn xe, RelF (X.tr pn xe) mu0 st ds H mu h) ∧ ∀ pn xe, AfterS (X.tr pn xe) W' mu0 H (fb ds h) E) nd hs hf tk
    (fun W' pn xe t p => PSs.imp (hb W' pn xe t p).pss fun E st H ⟨ds, mu, h, r, q⟩ => ⟨ds, mu, h, r pn xe, q pn xe⟩) hl) fun E st H ⟨ds, mu, h, r, q⟩ => ?_⟩
  unfold sTry at q
  obtain ⟨c, q⟩ := q.iff
  refine ⟨ds, mu, h, fun pn xe => r.any c rfl rfl rfl, fun pn xe => ?_⟩
  cases eb : fb ds h with
  | nx ds2 h2 =>
    rw [eb] at q
    obtain ⟨c2, q⟩ := q.iff
    exact fun st2 H2 mu2 r2 m2 => q st2 H2 mu2 (r2.any c2 rfl rfl rfl) m2
  | bk ds2 h2 =>
    rw [eb] at q
    obtain ⟨c2, q⟩ := q.iff
    exact fun st2 H2 mu2 r2 m2 => q st2 H2 mu2 (r2.any c2 rfl rfl rfl) m2
  | ct ds2 h2 =>
    rw [eb] at q
    obtain ⟨c2, q⟩ := q.iff
    exact fun st2 H2 mu2 r2 m2 => q st2 H2 mu2 (r2.any c2 rfl rfl rfl) m2
  | rt s2 h2 => rw [eb] at q; exact q
  | bad => rw [eb] at q; exact q.elim
  | exc x ds2 h2 =>
    rw [eb] at q
    obtain ⟨c2, q⟩ := q.iff
    exact fun cls d st2 H2 mu2 r2 m2 rx => catch_ok c2 ha q cls d st2 H2 mu2 (r2.any c2 rfl rfl rfl) m2 rx
end
end U
/-! T3: what a suite says of its error. -/
namespace U
open PySem PySem.Spec PyProof.Rows L2
section
variable {X : Cx} {W : WX} {mu0 : List Addr}
/-- isinstance(e, c) for a pinned error without an own dict -/
theorem call_isP : CallR X (.builtin "isinstance") (fun xs H Q => ∃ (e D : Addr) (oe : Obj) (c : V) (cv : Value) (b : Bool), xs = [.ref e, c] ∧ (e, oe) ∈ X.pn ∧ Zc (.ref D) none oe ∧ (∃ us, oe.data = .fields us) ∧ ExcC X.K D ∧ (∀ u, RelV c u → u = cv) ∧ PySem.W.kitOne X.K (.ref D) cv = some b ∧ Q (.bl b) H) := by
  intro pins s st H xs us Q I r h
  obtain ⟨e, D, oe, c, cv, b, rfl, hp, hz, hf, C, hcv, hk, q⟩ := h
  cases r with
  | cons rx rr =>
    cases rr with
    | cons rt rr =>
      cases rr
      cases rx
      have ec := hcv _ rt
      subst ec
      obtain ⟨hget, _⟩ := I.pin (e, oe) (List.mem_append_left _ hp)
      obtain ⟨vs, hv⟩ := hf
      have J : PySem.W.InstAt s.heap e oe D none := by
        obtain ⟨oc, od, oda, osl⟩ := oe
        obtain ⟨h1, h2⟩ := hz
        dsimp only at h1 h2 hv
        subst h1 h2 hv
        exact ⟨hget, rfl, rfl, trivial⟩
      exact PySem.W.kia_one (PySem.W.handS_kitx_exc C.hg C.hk C.hs C.hd C.ha C.hn C.ht C.hm) I.kIn J hk (fun z => nomatch z) fun tk => ⟨.bl b, H, I.kept (t' := tk) fun _ _ z => z, rfl, q⟩
def eIsE (tab : Str → Str → Option Bool) (C : Str) (i : Nat) : DS → LH → Out SV := fun ds h => match ds[i]? with
  | some (some (.exc x)) => iff (x.fs.isEmpty = true) (orBad (tab x.cls C) fun b => .ok (.val (.bool b)) h)
  | _ => .bad
theorem em_isE {tab : Str → Str → Option Bool} {n c : Str} {cv : Value} {v : V} {i : Nat} {p p1 p2 pos : Pos} (hN : X.N[i]? = some n) (hv : Vis X.env.scope n) (hc : PE X (.Name c p2) (tC v)) (hcv : ∀ u, RelV v u → u = cv)
    (ht : ∀ y cls b, X.mg y = some cls → tab y c = some b → ∃ D, cls = .ref D ∧ ExcC X.K D ∧ PySem.W.kitOne X.K (.ref D) cv = some b)
    (hg : Gl X "isinstance") (hm : X.mg "isinstance" = none) (hd : (n == ("__debug__" : Str)) = false := by decide) (hcd : (n == ("__classdict__" : Str)) = false := by decide)
    (hst : starEach [.Name n p1, .Name c p2] X.env = (false, eval (.Name n p1) X.env) :: starEach [.Name c p2] X.env := by rfl)
    (hpl : (backTo pos (starEach [.Name c p2] X.env)).any (·.1) = false := by rfl) : EM X W (.Call (.Name "isinstance" p) [.Name n p1, .Name c p2] [] pos) (eIsE tab c i) := by
  refine ⟨PE.imp (pe_callB call_isP hg hm boot_isinstance (pa_cons (pe_var hN hv hd hcd) (pa_cons hc pa_nil) hst) (by decide) (by decide) hst hpl) fun st H Q ⟨ds, mu, h, rs, rh, q⟩ => ?_⟩
  unfold eIsE at q
  split at q
  · rename_i x hx
    obtain ⟨hemp, q⟩ := q.iff
    obtain ⟨b, eb, q⟩ := q.orBad
    obtain ⟨e, oe, h1, ⟨h2, h3⟩, h4, h5⟩ := rs.ex i x hx
    obtain ⟨D, eD, C, k⟩ := ht x.cls oe.cls b h4 eb
    have hdict : oe.dict = none := by
      rcases h5 with ⟨z, _⟩ | ⟨d, fs, ⟨_, z⟩, _⟩
      · exact z
      · exact (z (List.isEmpty_iff.mp hemp)).elim
    exact ⟨_, h1, e, D, oe, v, cv, b, rfl, h2, ⟨eD, hdict⟩, h3, C, hcv, k, q.here rh (.bl _)⟩
  · exact q.elim
end
end U
/-! T4: the table of the errors' classes. -/
namespace U
open PySem PySem.Spec PyProof.Rows L2
abbrev ExRow := Str × Str × Bool
/-- raised class, named class: is the one a kind of the other -/
def exSub (rows : List ExRow) (y x : Str) : Option Bool := (rows.find? fun r => decide (r.1 = y) && decide (r.2.1 = x)).map (·.2.2)
structure EX (K : PySem.W.Frag) (mg : Str → Option Value) (n : Str) (C : Addr) : Prop where
  g : mg n = some (.ref C)
  e : ExcC K C
  t : PySem.W.typeIn K (.ref C) = some (.type "type")
  o : PySem.W.subIn K (.ref C) (.ref C) = some true
def ExRow.ok (K : PySem.W.Frag) (mg : Str → Option Value) (r : ExRow) : Prop := ∃ D, mg r.1 = some (.ref D) ∧ ExcC K D ∧
  ((∃ C, mg r.2.1 = some (.ref C) ∧ PySem.W.exmOne K (.ref D) (.ref C) = some r.2.2 ∧ PySem.W.kitOne K (.ref D) (.ref C) = some r.2.2) ∨
    (mg r.2.1 = none ∧ ∃ T, bootBuiltins r.2.1 = some (.type T) ∧ PySem.W.kitOne K (.ref D) (.type T) = some r.2.2))
section
variable {K : PySem.W.Frag} {mg : Str → Option Value} {x y : Str} {C D : Addr} {b : Bool}
theorem row_cls (E : EX K mg y D) (F : EX K mg x C) (s : PySem.W.subIn K (.ref D) (.ref C) = some b) : ExRow.ok K mg (y, x, b) := by
  refine ⟨D, E.g, E.e, .inl ⟨C, F.g, PySem.W.exm_ref F.e.hs F.e.hd F.t s, ?_⟩⟩
  unfold PySem.W.kitOne
  by_cases h : (Value.ref D == Value.ref C) = true
  · rw [if_pos h]
    have e : D = C := Value.ref.inj (beq_iff_eq.mp h)
    subst e
    exact F.o.symm.trans s
  · rw [if_neg h]
    unfold PySem.W.kitCls
    obtain ⟨cd, hc, _⟩ := PySem.W.any_some F.e.hd
    have e2 : ((PySem.W.clsIn K C).isSome && PySem.W.typeIn K (.ref C) == some (.type "type")) = true := by rw [hc, F.t] <;> rfl
    show (if ((PySem.W.clsIn K C).isSome && PySem.W.typeIn K (.ref C) == some (.type "type")) = true then PySem.W.subIn K (.ref D) (.ref C) else none) = _
    rw [if_pos e2]
    exact s
theorem row_blt {T : String} (E : EX K mg y D) (hm : mg x = none) (hv : bootBuiltins x = some (.type T)) (hk : PySem.W.kitMeta T = true) (s : PySem.W.subIn K (.ref D) (.type T) = some b) : ExRow.ok K mg (y, x, b) := by
  refine ⟨D, E.g, E.e, .inr ⟨hm, T, hv, ?_⟩⟩
  unfold PySem.W.kitOne
  have h : (Value.ref D == Value.type T) = false := rfl
  rw [h, if_neg Bool.false_ne_true]
  show (if PySem.W.kitMeta T = true then PySem.W.subIn K (.ref D) (.type T) else none) = _
  rw [if_pos hk]
  exact s
theorem row_at {rows : List ExRow} (R : ∀ r ∈ rows, ExRow.ok K mg r) (h : exSub rows y x = some b) : ExRow.ok K mg (y, x, b) := by
  unfold exSub at h
  obtain ⟨r, h1, h2⟩ := Option.map_eq_some_iff.mp h
  have m := List.mem_of_find?_eq_some h1
  have p := List.find?_some h1
  rw [Bool.and_eq_true] at p
  have e1 := of_decide_eq_true p.1
  have e2 := of_decide_eq_true p.2
  obtain ⟨r1, r2, r3⟩ := r
  cases e1
  cases e2
  cases h2
  exact R _ m
theorem sub_of {rows : List ExRow} (R : ∀ r ∈ rows, ExRow.ok K mg r) (hx : mg x = some (.ref C)) : ∀ y cls b, mg y = some cls → exSub rows y x = some b → PySem.W.exmOne K cls (.ref C) = some b := fun y cls b hy h => by
  obtain ⟨D, h1, _, h2⟩ := row_at R h
  have e : cls = .ref D := Option.some.inj (hy.symm.trans h1)
  rcases h2 with ⟨C2, h3, h4, _⟩ | ⟨h3, _⟩
  · have e2 : Value.ref C = .ref C2 := Option.some.inj (hx.symm.trans h3)
    rw [e, e2]
    exact h4
  · rw [h3] at hx; cases hx
theorem isC_of {rows : List ExRow} (R : ∀ r ∈ rows, ExRow.ok K mg r) (hx : mg x = some (.ref C)) : ∀ y cls b, mg y = some cls → exSub rows y x = some b → ∃ D, cls = .ref D ∧ ExcC K D ∧ PySem.W.kitOne K (.ref D) (.ref C) = some b := fun y cls b hy h => by
  obtain ⟨D, h1, h0, h2⟩ := row_at R h
  have e : cls = .ref D := Option.some.inj (hy.symm.trans h1)
  rcases h2 with ⟨C2, h3, _, h4⟩ | ⟨h3, _⟩
  · have e2 : Value.ref C = .ref C2 := Option.some.inj (hx.symm.trans h3)
    rw [e2]
    exact ⟨D, e, h0, h4⟩
  · rw [h3] at hx; cases hx
theorem isT_of {T : String} {rows : List ExRow} (R : ∀ r ∈ rows, ExRow.ok K mg r) (hx : mg x = none) (hv : bootBuiltins x = some (.type T)) : ∀ y cls b, mg y = some cls → exSub rows y x = some b → ∃ D, cls = .ref D ∧ ExcC K D ∧ PySem.W.kitOne K (.ref D) (.type T) = some b := fun y cls b hy h => by
  obtain ⟨D, h1, h0, h2⟩ := row_at R h
  have e : cls = .ref D := Option.some.inj (hy.symm.trans h1)
  rcases h2 with ⟨C2, h3, _⟩ | ⟨_, T2, h3, h4⟩
  · rw [hx] at h3; cases h3
  · have e2 : T2 = T := by rw [hv] at h3; cases h3; rfl
    subst e2
    exact ⟨D, e, h0, h4⟩
end
section
variable {X : Cx} {W : WX} {n c : Str} {i : Nat} {p p1 p2 pos : Pos} {rows : List ExRow} {C : Addr} {T : String}
theorem em_isEC (R : ∀ r ∈ rows, ExRow.ok X.K X.mg r) (hx : X.mg c = some (.ref C)) (hN : X.N[i]? = some n) (hv : Vis X.env.scope n) (hc : Gl X c) (hg : Gl X "isinstance") (hm : X.mg "isinstance" = none)
    (hd2 : (c == ("__debug__" : Str)) = false := by decide) (hd : (n == ("__debug__" : Str)) = false := by decide) (hcd : (n == ("__classdict__" : Str)) = false := by decide)
    (hst : starEach [.Name n p1, .Name c p2] X.env = (false, eval (.Name n p1) X.env) :: starEach [.Name c p2] X.env := by rfl)
    (hpl : (backTo pos (starEach [.Name c p2] X.env)).any (·.1) = false := by rfl) : EM X W (.Call (.Name "isinstance" p) [.Name n p1, .Name c p2] [] pos) (eIsE (exSub rows) c i) :=
  em_isE (v := .ref C) (cv := .ref C) hN hv (pe_glob hc hx rfl hd2) (fun _ r => r) (isC_of R hx) hg hm hd hcd hst hpl
theorem em_isET (R : ∀ r ∈ rows, ExRow.ok X.K X.mg r) (hx : X.mg c = none) (hb : bootBuiltins c = some (.type T)) (hN : X.N[i]? = some n) (hv : Vis X.env.scope n) (hc : Gl X c) (hg : Gl X "isinstance") (hm : X.mg "isinstance" = none)
    (hn : c ≠ "__name__" := by decide) (hd2 : (c == ("__debug__" : Str)) = false := by decide) (hd : (n == ("__debug__" : Str)) = false := by decide) (hcd : (n == ("__classdict__" : Str)) = false := by decide)
    (hst : starEach [.Name n p1, .Name c p2] X.env = (false, eval (.Name n p1) X.env) :: starEach [.Name c p2] X.env := by rfl)
    (hpl : (backTo pos (starEach [.Name c p2] X.env)).any (·.1) = false := by rfl) : EM X W (.Call (.Name "isinstance" p) [.Name n p1, .Name c p2] [] pos) (eIsE (exSub rows) c i) :=
  em_isE (v := .ty T) (cv := .type T) hN hv (pe_bltn (v := .ty T) hc hx hb rfl hn hd2) (fun _ r => r) (isT_of R hx hb) hg hm hd hcd hst hpl
end
end U
/-! U10: lists: count. -/
namespace U
open PySem PySem.Spec PyProof.Rows L2
theorem pairs_eq {α β : Type} : ∀ {l m : List (α × β)}, l.map (·.1) = m.map (·.1) → l.map (·.2) = m.map (·.2) → l = m
  | [], [], _, _ => rfl
  | [], _ :: _, h, _ => by cases h
  | _ :: _, [], h, _ => by cases h
  | (a, b) :: r, (c, d) :: t, h1, h2 => by
    rw [List.map_cons, List.map_cons, List.cons.injEq] at h1 h2
    obtain ⟨e1, e2⟩ := h1
    obtain ⟨e3, e4⟩ := h2
    have e1 : a = c := e1
    have e3 : b = d := e3
    rw [pairs_eq e2 e4, e1, e3]
mutual
theorem reads_fun {h : Heap} : ∀ {d d' : PyData} {v : Value} {as as' : List Addr}, Reads h v d as → Reads h v d' as' → d = d'
  | _, _, _, _, _, .none, r => by cases r; rfl
  | _, _, _, _, _, .bool b, r => by cases r; rfl
  | _, _, _, _, _, .int i t, r => by cases r; rfl
  | _, _, _, _, _, .str x t, r => by cases r; rfl
  | _, _, _, _, _, .list e1 e2 e3 q, r => by
    cases r with
    | list f1 f2 f3 q' =>
      rw [e1] at f1; cases f1
      rw [e3] at f3; cases f3
      rw [readsAll_fun q q']
    | tuple f1 f2 f3 q' => rw [e1] at f1; cases f1; exact absurd (e2.symm.trans f2) (by decide)
    | dict f1 f2 f3 q' q2 => rw [e1] at f1; cases f1; exact absurd (e2.symm.trans f2) (by decide)
  | _, _, _, _, _, .tuple e1 e2 e3 q, r => by
    cases r with
    | list f1 f2 f3 q' => rw [e1] at f1; cases f1; exact absurd (e2.symm.trans f2) (by decide)
    | tuple f1 f2 f3 q' =>
      rw [e1] at f1; cases f1
      rw [e3] at f3; cases f3
      rw [readsAll_fun q q']
    | dict f1 f2 f3 q' q2 => rw [e1] at f1; cases f1; exact absurd (e2.symm.trans f2) (by decide)
  | .dict kvs, _, _, _, _, .dict e1 e2 e3 q q1, r => by
    cases r with
    | list f1 f2 f3 q' => rw [e1] at f1; cases f1; exact absurd (e2.symm.trans f2) (by decide)
    | tuple f1 f2 f3 q' => rw [e1] at f1; cases f1; exact absurd (e2.symm.trans f2) (by decide)
    | @dict a o es n kvs' as bs f1 f2 f3 q' q2 =>
      rw [e1] at f1; cases f1
      rw [e3] at f3; cases f3
      have h1 := readsAll_fun q q'
      have h2 := readsAll_fun q1 q2
      have : kvs = kvs' := by
        exact pairs_eq h1 h2
      rw [this]
theorem readsAll_fun {h : Heap} : ∀ {ds ds' : List PyData} {vs : List Value} {as as' : List Addr}, ReadsAll h vs ds as → ReadsAll h vs ds' as' → ds = ds'
  | _, _, _, _, _, .nil, r => by cases r; rfl
  | _, _, _, _, _, .cons p q, r => by
    cases r with
    | cons p' q' => rw [reads_fun p p', readsAll_fun q q']
end
section
variable {X : Cx}
/-- does y read as a datum that equals d -/
noncomputable def eqH (h : Heap) (d : D) (y : Value) : Bool := @decide (∃ e as, Reads h y e as ∧ PyData.eqv e d = true) (Classical.propDecidable _)
theorem eqH_of {h : Heap} {d e : D} {y : Value} {as : List Addr} (r : Reads h y e as) : eqH h d y = PyData.eqv e d := by
  unfold eqH
  cases q : PyData.eqv e d with
  | true => exact @decide_eq_true _ (Classical.propDecidable _) ⟨e, as, r, q⟩
  | false =>
    refine @decide_eq_false _ (Classical.propDecidable _) ?_
    rintro ⟨e', as', r', q'⟩
    rw [← reads_fun r r', q] at q'
    cases q'
theorem count_eqH {h : Heap} {d : D} : ∀ {ds : List D} {vs : List Value} {as : List Addr}, ReadsAll h vs ds as → vs.countP (eqH h d) = ds.countP fun e => PyData.eqv e d
  | _, _, _, .nil => rfl
  | _, _, _, .cons r q => by rw [List.countP_cons, List.countP_cons, count_eqH q, eqH_of r]
theorem readsAll_mem {h : Heap} : ∀ {ds : List D} {vs : List Value} {as : List Addr}, ReadsAll h vs ds as → ∀ y ∈ vs, ∃ e ∈ ds, ∃ bs, Reads h y e bs
  | _, _, _, .nil, y, hy => by cases hy
  | _, _, _, .cons r q, y, hy => by
    rcases List.mem_cons.mp hy with rfl | hy
    · exact ⟨_, List.mem_cons_self, _, r⟩
    · obtain ⟨e, he, bs, z⟩ := readsAll_mem q y hy
      exact ⟨e, List.mem_cons_of_mem _ he, bs, z⟩
end
end U
namespace U
open PySem PySem.Spec PyProof.Rows L2
section
variable {X : Cx}
theorem plainAll_mem : ∀ {ds : List D}, PyData.plainAll ds = true → ∀ e ∈ ds, e.plain = true
  | [], _, e, he => by cases he
  | d :: r, h, e, he => by
    have h' : d.plain = true ∧ PyData.plainAll r = true := by simpa [PyData.plainAll] using h
    rcases List.mem_cons.mp he with rfl | he
    · exact h'.1
    · exact plainAll_mem h'.2 e he
theorem mt_countD (hu : X.A.units + 150 < cLine) : MtR X "list.count" (fun x xs H Q => ∃ p vs ds v d, x = .ref p ∧ xs = [v] ∧ SqL X.K H p vs ∧ DpAll X.K H vs ds ∧ Dp X.K H v d ∧ PyData.plainAll ds = true ∧ okD d = true ∧ Q (.int (ds.countP (fun e => PyData.eqv e d) : Nat)) H) := by
  intro pins s σ H x xs v us Q I rx rxs h
  obtain ⟨p, vs, ds, w, d, rfl, rfl, hs, he, hd, c1, c2, q⟩ := h
  obtain ⟨c2, c3⟩ := okD_of c2
  cases rx
  obtain ⟨u, rfl, ru⟩ := rxs.one
  obtain ⟨as, r1⟩ := Dp.reads I d w u hd ru
  obtain ⟨bs, r2⟩ := Dp.reads I (.list ds) (.ref p) (.ref p) (.lst hs he) rfl
  obtain ⟨its, rv, ⟨⟨cls, dd, data, sl⟩, n, ho, hc, hdn, hdt⟩, hlen⟩ := I.list hs
  simp only at hc hdt
  subst hc hdt
  cases r2 with
  | list f1 f2 f3 q2 =>
    rw [ho] at f1
    cases f1
    cases f3
    refine call_meets PySem.F.slot_list_count ⟨_, ho, rfl⟩ PySem.F.entry_list_count (PySem.F.args_list_count_2 _ _)
      (SeqAt.list_countAt p its.toArray n dd sl u (eqH s.heap d)) ⟨ho, fun y hy => ?_, ?_⟩
    · obtain ⟨e, hm, cs, r⟩ := readsAll_mem q2 y (by simpa using hy)
      rw [eqH_of r]
      exact SeqAt.eqAt_plain e d _ _ y u cs as r r1 (plainAll_mem c1 e hm) c2 (by have := Nat.min_le_right e.depth d.depth; show X.A.units + 1 + min e.depth d.depth < cLine; omega)
    · refine ⟨.int (ds.countP (fun e => PyData.eqv e d) : Nat), H, I.tok _, ⟨s.toks, ?_⟩, q⟩
      rw [count_eqH q2]
end
end U
/-! U12: calls without arguments, on the whole heap. -/
namespace U
open PySem PySem.Spec PyProof.Rows L2
section
variable {X : Cx} {W : WX} {pos p : Pos} {x : Str} {k n : Nat} {f : Addr} {fd : FuncData} {ps : List Str} {run : RF}
theorem em_call0 (F : FnOk X.prog X.w X.K X.mg X.base (L2.CX X.prog X.w) k f fd ps (spOf X.K X.mg 0 run)) (hr : Room k X.A) (hg : Gl X x) (hm : X.mg x = some (.ref f)) (hk : PySem.W.keepIn X.K (.ref f) = true) (hb : Binds X.K fd ps []) (tk : Takes X W)
    (hdb : (x == ("__debug__" : Str)) = false := by decide) : EM X W (.Call (.Name x p) [] [] pos) (fun _ h => gCall run [] h) :=
  ⟨PE.imp (pe_call0S F hr hg hm hk hb (fun st => passAt tk st) hdb) fun st H Q ⟨ds, mu, h, rs, rh, q⟩ => sp_call X.K X.mg rfl rh .nil q⟩
end
end U
/-! U13: sorted of data (a list or a tuple), count. -/
namespace U
open PySem PySem.Spec PyProof.Rows L2 PySem.W
section
variable {prog : Program} {w : World} {A : Around} {E : Value → Shared → Prop} {s : Shared}
theorem collect_tup {l : Addr} {vs : List Value} {Q : List Value → Shared → Prop} (hl : IsTup s.heap l vs.toArray)
    (h : Q vs { s with heap := (s.heap.push (seqObj "list" #[] 0)).update s.heap.objs.size (Obj.mapSeq (· ++ vs.toArray)) }) (hsz : vs.length ≤ sizeLine) :
    wpAny (model prog w) A (collect (.ref l)) Q E s := by
  obtain ⟨o, ho, hc, n, hd⟩ := id hl
  unfold collect
  refine wpAny_bind (wpAny_runValue (codeAny_builtin entry_proto_collect' ?_))
  show wpAny _ _ (do again (.builtin "list.__iadd__" ⟨[← newList [], .ref l], []⟩)) _ _ s
  refine wpAny_bind (wpAny_newList (wpAny_pure ⟨Code.quiet_builtin _ (by decide +kernel), codeAny_builtin entry_list_iadd' ?_⟩))
  show wpAny _ _ (Builtin.List.listExtendWith (.ref s.heap.objs.size) (.ref l) (.ref s.heap.objs.size)) _ _ { s with heap := s.heap.push (seqObj "list" #[] 0) }
  unfold Builtin.List.listExtendWith
  have ho' : (s.heap.push (seqObj "list" #[] 0)).get? l = some o := Heap.get?_push_of_some _ ho
  refine wpAny_bind (wpAny_typeOf (T := "tuple") ⟨o, ho', hc⟩ ?_)
  have ht : (Value.type "tuple" == Value.type "tuple") = true := by rfl
  rw [if_pos (by rw [ht]; simp)]
  refine wpAny_bind (listItems_at ho' hd ?_)
  refine wpAny_bind (listItems_at (xs := #[]) (n := 0) (Heap.get?_push_size _ rfl) rfl ?_)
  rw [if_neg (by simp)]
  refine wpAny_bind (listUpdate_at (xs := #[]) (n := 0) (Heap.get?_push_size _ rfl) rfl ?_ (Nat.zero_le _) (by show (#[] ++ vs.toArray).size ≤ sizeLine + 1; simp only [Array.size_append, List.size_toArray, List.length_nil]; omega))
  refine wpAny_pure ?_
  show wpAny (model prog w) A (do
      let o ← load s.heap.objs.size
      match o.data with
      | .seq xs _ => pure xs.toList
      | _ => unsupported "internal:collect") Q E { s with heap := (s.heap.push (seqObj "list" #[] 0)).update s.heap.objs.size (Obj.mapSeq (· ++ vs.toArray)) }
  refine wpAny_bind (wpAny_load (get?_update_seq (Heap.get?_push_size _ rfl) _) ?_)
  show wpAny _ _ (pure ((#[] : Array Value) ++ vs.toArray).toList) Q E _
  rw [show ((#[] : Array Value) ++ vs.toArray).toList = vs by simp]
  exact wpAny_pure h
theorem sorted_of_tup {l : Addr} {vs : List Value} {kw : List (Str × Value)} {Q : Value → Shared → Prop} (hl : IsTup s.heap l vs.toArray) (hL : vs.length ≤ sizeLine) (ha1 : argsOk "sorted" ⟨[.ref l], kw⟩) (ha2 : ∀ x, argsOk "list.sort" ⟨[.ref x], kw⟩)
    (body : ∀ E' : Value → Shared → Prop, wpAny (model prog w) A.in1.in1 (Builtin.«list.sort» ⟨[.ref (s.heap.objs.size + 1)], kw⟩) (fun f s' => f = .done (.ret .none) ∧ Q (.ref (s.heap.objs.size + 1)) s') E' { s with heap := copyHeap s.heap vs }) :
    wpAny (model prog w) A (call (.builtin "sorted") [.ref l] kw) Q E s := by
  refine call_function_entry_kw kind_sorted plain_sorted entry_sorted ha1 ?_
  unfold Builtin.«sorted»
  refine wpAny_bind (m := checkCount "sorted" 1 1 _) (wpAny_pure ?_)
  refine wpAny_bind (collect_tup hl ?_ hL)
  refine wpAny_bind (wpAny_newList ?_ hL)
  have hsz : ((s.heap.push (seqObj "list" #[] 0)).update s.heap.objs.size (Obj.mapSeq (· ++ vs.toArray))).objs.size = s.heap.objs.size + 1 := by
    rw [Heap.size_update, size_push']
  show wpAny _ _ _ _ _ { s with heap := copyHeap s.heap vs }
  rw [hsz]
  refine wpAny_bind (wpAny_holding (wpAny_call_entry_kw slot_list_sort ⟨_, copyHeap_at s.heap vs, rfl⟩ entry_list_sort ?body (ha2 _)))
  case body =>
    show wpAny (model prog w) A.in1.in1 (Builtin.«list.sort» ⟨[.ref (s.heap.objs.size + 1)], kw⟩) _ _ _
    refine wpAny_mono (body _) (fun f s' hf => ?_) fun _ _ e => e
    obtain ⟨rfl, hq⟩ := hf
    exact ⟨_, rfl, wpAny_pure ⟨_, rfl, hq⟩⟩
theorem sorted_tup_data {β : Type} {vs : List Value} {bs : List β} {enc : β → PyData} {R : Value → β → Prop} {l : Addr} {Q : Value → Shared → Prop} (hl : IsTup s.heap l vs.toArray) (e : EachIs R vs bs) (er : EachIs (fun v b => ∃ as, Reads s.heap v (enc b) as) vs bs) (hal : AllAlike (bs.map enc)) (hk : Sortable (bs.map enc)) (hL : bs.length ≤ sizeLine)
    (hu : ∀ b, b ∈ bs → A.units + 2 + (enc b).depth < cLine) (h : ∀ out, out.length = bs.length → EachIs R out (bs.mergeSort (dataLe false enc)) → Q (.ref (s.heap.objs.size + 1)) { s with heap := sortedAll s.heap vs (List.toArray out) }) :
    wpAny (model prog w) A (call (.builtin "sorted") [.ref l]) Q E s := by
  have er' : EachIs (fun v b => ∃ as, Reads (sortingHeap (copyHeap s.heap vs) (s.heap.objs.size + 1) vs) v (enc b) as) vs bs := er.mono fun _ _ ⟨as, r⟩ => ⟨as, PyProof.Rows.Reads.keeps (fun _ _ => sorting_copy_old) r⟩
  have S : SortsAt prog w A.in1.in1 { s with heap := sortingHeap (copyHeap s.heap vs) (s.heap.objs.size + 1) vs } (dataKind (sortingHeap (copyHeap s.heap vs) (s.heap.objs.size + 1) vs) (bs.map enc)) vs := SortsAt.data (s := { s with heap := sortingHeap (copyHeap s.heap vs) (s.heap.objs.size + 1) vs }) (each_map (R := fun v d => ∃ as, Reads (sortingHeap (copyHeap s.heap vs) (s.heap.objs.size + 1) vs) v d as) enc er') hal hk (bound_map hu)
  refine sorted_of_tup hl (by rw [e.length]; exact hL) (args_sorted1 _) (fun _ => args_list_sort _) fun _ => list_sort_vals (s := { s with heap := copyHeap s.heap vs }) (copyHeap_at s.heap vs) S (by rw [e.length]; exact hL) ⟨rfl, ?_⟩
  exact h _ (by rw [sortVals_length false rfl]; exact e.length) (sortVals_data false e er' hal)
end

/-- data that can be sorted -/
def sortB (ds : List D) : Bool := ds.all (fun d => ds.all (fun e => PySem.W.alike d e)) && (ds.all (fun d => match d with | .tuple (_ :: _) => true | _ => false) || ds.all (fun d => match d with | .tuple _ => false | .none => false | _ => true)) && ds.all (fun d => decide (d.depth ≤ 100))
def sortD (ds : List D) : List D := ds.mergeSort (dataLe false id)
theorem sortB_of {ds : List D} (h : sortB ds = true) : AllAlike (ds.map id) ∧ Sortable (ds.map id) ∧ ∀ d ∈ ds, d.depth ≤ 100 := by
  unfold sortB at h
  rw [Bool.and_eq_true, Bool.and_eq_true, Bool.or_eq_true] at h
  obtain ⟨⟨h1, h2⟩, h3⟩ := h
  rw [List.map_id]
  refine ⟨fun d hd e he => List.all_eq_true.mp (List.all_eq_true.mp h1 d hd) e he, ?_, fun d hd => of_decide_eq_true (List.all_eq_true.mp h3 d hd)⟩
  rcases h2 with h2 | h2
  · refine .inl fun d hd => ?_
    have := List.all_eq_true.mp h2 d hd
    cases d with
    | tuple l =>
      cases l with
      | nil => cases this
      | cons x r => exact ⟨x, r, rfl⟩
    | _ => cases this
  · refine .inr fun d hd => ?_
    have := List.all_eq_true.mp h2 d hd
    cases d with
    | tuple l => cases this
    | none => cases this
    | _ => exact ⟨by simp, by simp⟩
def rSortD (K : PySem.W.Frag) : List V → Hp → VK → Prop := fun vs H Q => ∃ a xs ds, vs = [V.ref a] ∧ (SqL K H a xs ∨ SqT K H a xs) ∧ RpAll K H xs ds ∧ sortB ds = true ∧ ∀ p ys, H p = none → RpAll K H ys (sortD ds) → Q (.ref p) (upd H p (.lst ys))
section
variable {X : Cx}
theorem each_rp {pins : List (Addr × Obj)} {σ : L2.St} {H : Hp} {s : Shared} (I : Inv X pins σ H s) : ∀ {xs : List V} {ds : List D} {us : List Value}, RpAll X.K H xs ds → Vals xs us →
    EachIs (fun u d => ∃ v, RelV v u ∧ Rp X.K H v d) us ds ∧ EachIs (fun v b => ∃ as, Reads s.heap v (id b) as) us ds
  | _, _, _, .nil, .nil => ⟨.nil, .nil⟩
  | _, _, _, .cons h t, .cons r q => by
    obtain ⟨h1, h2⟩ := each_rp I t q
    exact ⟨.cons ⟨_, r, h⟩ h1, .cons (Dp.reads I _ _ _ h.dp r) h2⟩
theorem each_back {K : PySem.W.Frag} {H : Hp} : ∀ {us : List Value} {ds : List D}, EachIs (fun u d => ∃ v, RelV v u ∧ Rp K H v d) us ds → ∃ xs, Vals xs us ∧ RpAll K H xs ds
  | _, _, .nil => ⟨[], .nil, .nil⟩
  | _, _, .cons ⟨v, r, h⟩ t => by
    obtain ⟨xs, h1, h2⟩ := each_back t
    exact ⟨v :: xs, .cons r h1, .cons h h2⟩
theorem cr_sortD (hu : X.A.units + 150 < cLine) : CallR X (.builtin "sorted") (rSortD X.K) := by
  intro pins s σ H vs us Q I r h
  obtain ⟨a, xs, ds, rfl, hs, rp, c, q⟩ := h
  obtain ⟨c1, c2, c3⟩ := sortB_of c
  rw [Vals.ref1 r]
  have fin : ∀ its : List Value, Vals xs its → xs.length ≤ sizeLine → ∀ out, out.length = ds.length → EachIs (fun u d => ∃ v, RelV v u ∧ Rp X.K H v d) out (ds.mergeSort (dataLe false id)) → EP X pins σ Q (.ref (s.heap.objs.size + 1)) { s with heap := sortedAll s.heap its (List.toArray out) } := by
    intro its rv hz out hl eo
    obtain ⟨ep, he'⟩ := PyProof.Rows.sortedAll_at s.heap its (List.toArray out)
    obtain ⟨ys, v1, v2⟩ := each_back eo
    have hlen : ys.length ≤ sizeLine := by rw [v1.length, hl, ← rp.length]; exact hz
    exact ⟨.ref _, upd H (s.heap.objs.size + 1) (.lst ys), I.laid (t' := s.toks) (fun _ _ => PyProof.Rows.sortedAll_old) (Nat.le_succ _) ⟨hlen, out, ep, v1, he'⟩, rfl, q _ ys (I.hok.fresh (Nat.le_succ _)) v2⟩
  have hub : ∀ b : D, b ∈ ds → X.A.units + 2 + (id b : D).depth < cLine := fun b hb => by have := c3 b hb; show X.A.units + 2 + b.depth < cLine; omega
  rcases hs with hs | hs
  · obtain ⟨its, rv, hl, hz⟩ := I.list hs
    obtain ⟨e1, e2⟩ := each_rp I rp rv
    exact sorted_data (enc := id) hl.isList e1 e2 c1 c2 (by rw [← rp.length]; exact hz) hub (fin its rv hz)
  · obtain ⟨its, rv, hl, hz⟩ := I.tuple hs
    obtain ⟨e1, e2⟩ := each_rp I rp rv
    exact sorted_tup_data (enc := id) hl e1 e2 c1 c2 (by rw [← rp.length]; exact hz) hub (fin its rv hz)
variable {W : WX} {e o : Expr} {fa fo : DS → LH → Out SV} {pos p apos cpos : Pos} {x : Str}
theorem boot_sorted : bootBuiltins "sorted" = some (.builtin "sorted") := by boot_fast
/-- sorted(e), a new list -/
def fSort (fa : DS → LH → Out SV) : DS → LH → Out (List D) := fun ds h => (fa ds h).bind fun x h1 => orBad (asSeq x) fun l => iff (sortB l = true) (.ok (sortD l) h1)
theorem fm_sort (hu : X.A.units + 150 < cLine) (hg : Gl X "sorted") (hm : X.mg "sorted" = none) (he : EM X W e fa) (hst : starEach [e] X.env = (false, eval e X.env) :: starEach [] X.env := by rfl) (hpl : (backTo pos (starEach [] X.env)).any (·.1) = false := by rfl) :
    FM X W (.Call (.Name "sorted" p) [e] [] pos) (fSort fa) := ⟨PE.imp (pe_callB (cr_sortD hu) hg hm boot_sorted (pa_cons he.pe pa_nil hst) (by decide) (by decide) hst hpl) fun st H Q ⟨ds, mu, h, rs, rh, q⟩ => by
  refine ⟨ds, mu, h, rs, rh, After.step q fun x h1 v H1 mu1 _ e1 rh1 r1 q1 => ?_⟩
  obtain ⟨l, el, q2⟩ := q1.orBad
  obtain ⟨c, q3⟩ := q2.iff
  obtain ⟨a, xs, rfl, hs, rp⟩ := asSeq_rel el r1
  refine ⟨a, xs, l, rfl, hs, rp, c, fun p ys hp ry => q3 _ _ mu1 (ext_new hp) (rh1.new hp) ⟨p, ys, rfl, ?_, rh1.notin hp, upd_same, ry.mono (upd_mono hp)⟩⟩
  cases z : H p with
  | none => rfl
  | some u => exact absurd hp (e1.live p (by rw [z]; simp))⟩
/-- a list's method of one argument -/
def eL1 (g : List D → SV → LH → Out SV) (fo fe : DS → LH → Out SV) : DS → LH → Out SV := fun ds h => (fo ds h).bind fun x h1 => orBad (asLst x) fun l => (fe ds h1).bind fun y h2 => g l y h2
/-- x.count(e) -/
def gCount (l : List D) (y : SV) (h : LH) : Out SV := orBad (asD y) fun d => iff (PyData.plainAll l = true ∧ okD d = true) (.ok (.val (.int (l.countP (fun e => PyData.eqv e d) : Nat))) h)
theorem em_count (hu : X.A.units + 150 < cLine) (ho : EM X W o fo) (he : EM X W e fa)
    (hbase : attributeBase o "count" X.env (eval o X.env) = eval o X.env := by rfl)
    (hfew : ((backTo cpos (starEach [e] X.env)).all (fun x => !x.1) && (backToKw cpos (keywordEach [] X.env)).all (fun x => x.1.isSome)
      && decide ([e].length + ([] : List Keyword).length + (if ([] : List Keyword).isEmpty then 0 else 1) < 30)) = true := by rfl)
    (hline : (apos.endLine == cpos.line) = true := by rfl) (hs : starEach [e] X.env = (false, eval e X.env) :: starEach [] X.env := by rfl) (hplain : (backTo cpos (starEach [] X.env)).any (·.1) = false := by rfl) :
    EM X W (.Call (.Attribute o "count" apos) [e] [] cpos) (eL1 gCount fo fa) := ⟨PE.imp (pe_bm PySem.F.plainAttrs_list PySem.F.slot_list_count PySem.F.type_list_count (mt_countD hu) ho.pe (pa_cons he.pe pa_nil hs) hbase hfew hline hs hplain) fun st H Q ⟨ds, mu, h, rs, rh, q⟩ => by
  refine ⟨ds, mu, h, rs, rh, After.step q fun x h1 v H1 mu1 _ e1 rh1 r1 q1 => ?_⟩
  obtain ⟨l, el, q2⟩ := q1.orBad
  obtain ⟨a, xs, rfl, hd, rr⟩ := asLst_rel el r1
  refine ⟨.inl ⟨rfl, _, rd_sq hd⟩, ds, mu1, h1, rs.ext e1, rh1, After.step q2 fun y h2 u H2 mu2 _ e2 rh2 r2 q3 => ?_⟩
  obtain ⟨d, ed, q4⟩ := q3.orBad
  obtain ⟨⟨c1, c2⟩, q5⟩ := q4.iff
  obtain ⟨a', xs', ea, hd', rr'⟩ := asLst_rel el (r1.ext e2)
  cases ea
  exact ⟨a, xs', l, u, d, rfl, rfl, rd_sq hd', rr'.dp, asD_dp ed r2, c1, c2, q5.here rh2 (.int _)⟩⟩
end
end U
/-! U14: lists of the logical heap: list(..), truth, len, pop. -/
namespace U
open PySem PySem.Spec PyProof.Rows L2
theorem all2_vals {K : PySem.W.Frag} {H : Hp} {mu : List Addr} : ∀ {vs : List V} {ds : List D}, RpAll K H vs ds → All2 (RelPV K H mu) vs (ds.map SV.val)
  | _, _, .nil => .nil
  | _, _, .cons h t => .cons ⟨trivial, h⟩ (all2_vals t)
section
variable {X : Cx} {W : WX} {a e o i : Expr} {fa fo fi : DS → LH → Out SV} {pos apos cpos p : Pos}
/-- list(..), a list of the logical heap -/
def gListH (xs : List SV) (h : LH) : Out SV := orBad (arg1 xs) fun x => orBad (asSeq x) fun ds => .ok (.ref h.length) (h ++ [.lst (ds.map SV.val)])
theorem cd_listH : CallD X (.type "list") gListH := ⟨_, call_list_of, fun W mu h H vs ss Q rh rr q => by
  obtain ⟨x, e, q⟩ := q.orBad
  obtain ⟨ds, ei, q⟩ := q.orBad
  obtain ⟨v, rfl, r⟩ := arg1_rel e rr
  obtain ⟨a, ys, rfl, hs, rl⟩ := asSeq_rel ei r
  refine ⟨a, ys, rfl, hs, fun p hp => ?_⟩
  have e0 : Ext mu H (mu ++ [p]) (upd H p (.lst ys)) := ⟨upd_mono hp, fun b u q _ => by rw [upd_ne (ne_of_none q hp)]; exact q, ⟨[p], rfl, fun a ha => by rw [List.mem_singleton] at ha; subst ha; exact hp⟩, fun b q => by
    by_cases z : b = p
    · subst z; rw [upd_same]; simp
    · rw [upd_ne z]; exact q⟩
  obtain ⟨e2, rh2⟩ := rh.add (g := .lst (ds.map SV.val)) hp ⟨ys, upd_same, all2_vals (rl.mono (upd_mono hp))⟩
  exact q _ _ _ e2 rh2 ⟨p, by rw [← rh.len, List.getElem?_append_right (Nat.le_refl _)]; simp, rfl⟩⟩
/-- truth of any, also of a list of the logical heap -/
def tTruH (f : DS → LH → Out SV) : DS → LH → Out Bool := fun ds h => (f ds h).bind fun x h1 => orNext (refLst h1 x) (fun p => .ok (!p.2.isEmpty) h1) (orBad (tru x) fun b => .ok b h1)
theorem isEmpty_all2 {α β : Type} {R : α → β → Prop} {vs : List α} {ds : List β} (r : All2 R vs ds) : (!ds.isEmpty) = !vs.isEmpty := by cases r <;> rfl
theorem tm_truH (ha : EM X W a fa) (he : ∀ whole, isTrue a X.env whole = (do let v ← whole; standAt a.pos; holding [v] (truthy v)) := by intro _; rfl) : TM X W a (tTruH fa) :=
  ⟨PT.imp (pt_truth ha.pe he) fun st H Q ⟨ds, mu, h, rs, rh, q⟩ => ⟨ds, mu, h, rs, rh, After.step q fun c h1 v H1 mu1 _ e1 rh1 r1 q1 => by
    rcases q1.orNext with ⟨p, ep, q2⟩ | q2
    · obtain ⟨a, vs, rfl, hm, hh, hl, rr⟩ := refLst_rel ep rh1 r1
      exact ⟨_, .inl ⟨_, .inl (.inl hl), isEmpty_all2 rr⟩, q2.here rh1 rfl⟩
    · obtain ⟨b, e, q2⟩ := q2.orBad
      exact ⟨b, tru_rel e r1, q2.here rh1 rfl⟩⟩⟩
/-- len of any, also of a list of the logical heap -/
def gLenH (xs : List SV) (h : LH) : Out SV := orBad (arg1 xs) fun x => orNext (refLst h x) (fun p => .ok (.val (.int p.2.length)) h) (orBad (lenS x) fun n => .ok (.val (.int n)) h)
theorem cd_lenH : CallD X (.builtin "len") gLenH := ⟨_, call_len, fun W mu h H vs ss Q rh rr q => by
  obtain ⟨x, e, q⟩ := q.orBad
  obtain ⟨v, rfl, r⟩ := arg1_rel e rr
  rcases q.orNext with ⟨p, ep, q2⟩ | q2
  · obtain ⟨a, vs, rfl, hm, hh, hl, rr⟩ := refLst_rel ep rh r
    exact ⟨_, p.2.length, rfl, .inl ⟨_, .inl (.inl hl), rr.length.symm⟩, q2.here rh (.int _)⟩
  · obtain ⟨n, en, q⟩ := q2.orBad
    exact ⟨v, n, rfl, lenS_rel en r, q.here rh (.int _)⟩⟩
theorem All2.eraseIdx {α β : Type} {R : α → β → Prop} : ∀ {as : List α} {bs : List β} (i : Nat), All2 R as bs → All2 R (as.eraseIdx i) (bs.eraseIdx i)
  | _, _, _, .nil => .nil
  | _, _, 0, .cons _ t => t
  | _, _, i + 1, .cons q t => .cons q (All2.eraseIdx i t)
/-- x.pop(i), x a list of the logical heap -/
def ePop (fo fi : DS → LH → Out SV) : DS → LH → Out SV := fun ds h => (fo ds h).bind fun x h1 => orBad (refLst h1 x) fun _ => (fi ds h1).bind fun y h2 => orBad (both (refLst h2 x) (asInt y)) fun p => iff (okR p.2) (orBad (ixN p.1.2.length p.2) fun k => orBad p.1.2[k]? fun s => .ok s (h2.set p.1.1 (.lst (p.1.2.eraseIdx k))))
theorem em_pop (ho : EM X W o fo) (he : EM X W e fi)
    (hbase : attributeBase o "pop" X.env (eval o X.env) = eval o X.env := by rfl)
    (hfew : ((backTo cpos (starEach [e] X.env)).all (fun x => !x.1) && (backToKw cpos (keywordEach [] X.env)).all (fun x => x.1.isSome)
      && decide ([e].length + ([] : List Keyword).length + (if ([] : List Keyword).isEmpty then 0 else 1) < 30)) = true := by rfl)
    (hline : (apos.endLine == cpos.line) = true := by rfl) (hs : starEach [e] X.env = (false, eval e X.env) :: starEach [] X.env := by rfl) (hplain : (backTo cpos (starEach [] X.env)).any (·.1) = false := by rfl) :
    EM X W (.Call (.Attribute o "pop" apos) [e] [] cpos) (ePop fo fi) := ⟨PE.imp (pe_bm PySem.F.plainAttrs_list PySem.F.slot_list_pop PySem.F.type_list_pop (mt_popAt : MtR X "list.pop" rPopAt) ho.pe (pa_cons he.pe pa_nil hs) hbase hfew hline hs hplain) fun st H Q ⟨ds, mu, h, rs, rh, q⟩ => by
  refine ⟨ds, mu, h, rs, rh, After.step q fun x h1 v H1 mu1 _ e1 rh1 r1 q1 => ?_⟩
  obtain ⟨p0, ep0, q2⟩ := q1.orBad
  obtain ⟨a, vs, rfl, hm, hh, hl, rr⟩ := refLst_rel ep0 rh1 r1
  refine ⟨.inl ⟨rfl, _, .inl (.inl hl)⟩, ds, mu1, h1, rs.ext e1, rh1, After.step q2 fun y h2 u H2 mu2 _ e2 rh2 r2 q3 => ?_⟩
  obtain ⟨p, ep, q4⟩ := q3.orBad
  obtain ⟨⟨z1, z2⟩, q4⟩ := q4.iff
  obtain ⟨k, ek, q5⟩ := q4.orBad
  obtain ⟨s, es, q6⟩ := q5.orBad
  obtain ⟨e4, e5⟩ := both_of ep
  obtain ⟨a', vs', ea, hm', hh', hl', rr'⟩ := refLst_rel e4 rh2 (r1.ext e2)
  cases ea
  have hmem : a ∈ mu2 := List.mem_of_getElem? hm'
  have ex := ext_mu (ys := vs'.eraseIdx k) hmem hl'
  have hz : vs'.length = p.1.2.length := rr'.length
  obtain ⟨k1, k2, k3, k4⟩ := ixN_seq ek
  obtain ⟨w, hw, rw_⟩ := rr'.get es
  refine ⟨a, vs', p.2, k, w, rfl, by rw [asInt_rel e5 r2], hl', by omega, by omega, by rw [hz]; exact k1, hw, ?_⟩
  refine q6 _ _ mu2 ex ?_ ((rw_.2).ext ex)
  exact rh2.put hm' ex ⟨_, upd_same, All2.eraseIdx k (rr'.imp fun _ _ z => z.ext ex)⟩⟩
end
end U
/-! U15: comprehensions over what stays while no slot is written: also one's own list. -/
namespace U
open PySem PySem.Spec PyProof.Rows L2
def ServesE (K : PySem.W.Frag) (J : It) (H0 : Hp) (mu0 : List Addr) (items : List D) : Prop := ∀ i H mu, Ext mu0 H0 mu H →
  (∀ d, items[i]? = some d → J.go i H ∧ ∀ v H', J.yld i H v H' → Ext [] H [] H' ∧ Rp K H' v d) ∧ (items.length ≤ i → J.stop i H)
theorem Serves.e {K : PySem.W.Frag} {J : It} {H0 : Hp} {mu0 : List Addr} {items : List D} (s : Serves K J H0 items) : ServesE K J H0 mu0 items := fun i H mu e => s i H e.mono
structure IC (X : Cx) (W : WX) (tg e : Expr) (f : DS → LH → Out (List D)) : Prop where
  pi : PI X tg e fun st H R => ∃ ds mu h, RelS X.K X.mg X.pn H mu st ds ∧ RelH X.K H mu h ∧ After X.K X.mg (fun c dd H' => W c dd st H') (fun H' mu' J items => ServesE X.K J H' mu' items) mu H (f ds h) R
theorem PI.imp2 {X : Cx} {tg e : Expr} {t t' : TI} (h : PI X tg e t) (i : ∀ st H R, t' st H R → t st H R) : PI X tg e t' := ⟨fun pins s st H R I q => h.run pins s st H R I (i _ _ _ q)⟩
theorem After.weak {α γ : Type} {K : PySem.W.Frag} {mg : Str → Option Value} {W : Value → Option Addr → Hp → Prop} {R R' : Hp → List Addr → γ → α → Prop} {mu : List Addr} {H : Hp} {o : Out α} {Q : γ → Hp → Prop} (q : After K mg W R' mu H o Q) (i : ∀ H' mu' c a, R H' mu' c a → R' H' mu' c a) : After K mg W R mu H o Q := by
  cases o with
  | ok a h => exact fun v H' mu' e rh r => q v H' mu' e rh (i _ _ _ _ r)
  | exc x h => exact q
  | bad => exact q
theorem IM.ic {X : Cx} {W : WX} {tg e : Expr} {f : DS → LH → Out (List D)} (h : IM X W tg e f) : IC X W tg e f := ⟨PI.imp2 h.pi fun st H R ⟨ds, mu, hh, rs, rh, q⟩ => ⟨ds, mu, hh, rs, rh, q.weak fun H' mu' c a s => s.e⟩⟩
def iOwn (f : DS → LH → Out SV) : DS → LH → Out (List D) := fun ds h => (f ds h).bind fun x h1 => orBad (match x with
  | .own l => some l
  | _ => none) fun l => .ok l h1
theorem servesE_own {K : PySem.W.Frag} {H0 : Hp} {mu0 : List Addr} {a : Addr} {xs : List V} {ds : List D} (hs : H0 a = some (.lst xs)) (n : a ∉ mu0) (r : RpAll K H0 xs ds) : ServesE K (Itl K a) H0 mu0 ds := fun i H mu e => by
  have hH : SqL K H a xs := .inl (.inl (e.keep _ _ hs n))
  exact ⟨fun d ed => by
    obtain ⟨v, ev, rv⟩ := r.get ed
    exact ⟨⟨xs, v, hH, ev⟩, fun w H' ⟨eH, hw⟩ => by
      subst eH
      have := hw xs hH
      rw [ev] at this
      cases this
      exact ⟨.refl _ _, rv.mono e.mono⟩⟩, fun hl => ⟨xs, hH, by rw [r.length]; exact hl⟩⟩
theorem ic_own {X : Cx} {W : WX} {tg a : Expr} {fa : DS → LH → Out SV} (ha : EM X W a fa) : IC X W tg a (iOwn fa) := ⟨PI.imp2 (pi_list ha.pe) fun st H R ⟨ds, mu, h, rs, rh, q⟩ =>
  ⟨ds, mu, h, rs, rh, After.step q fun x h1 v H1 mu1 _ e1 rh1 r1 q1 => by
    obtain ⟨l, e, q2⟩ := q1.orBad
    cases x with
    | own l' =>
      cases e
      obtain ⟨a, xs, rfl, ha, na, ra⟩ := r1
      exact ⟨a, rfl, ⟨xs, .inl (.inl ha)⟩, q2.here rh1 (servesE_own ha na ra)⟩
    | _ => cases e⟩⟩
section
variable {X : Cx} {W : WX} {elt tg iter : Expr} {ifs : List Expr} {scope : Scope} {own : List (Str × Nat)} {pos : Pos} {fi : DS → LH → Out (List D)} {ft : D → DS → Option DS} {tt : DS → LH → Out Bool} {fe : DS → LH → Out SV} {is : List Nat}
theorem LF.compC {fi : DS → LH → Out (List D)} {vs : List Nat} (hsub : ∀ i ∈ is, i ∈ vs)
    {wi : TI} {g : TG} {t : TT} {te : TE}
    (hwi : ∀ st H R, (∃ ds mu h, RelS X.K X.mg X.pn H mu st ds ∧ RelH X.K H mu h ∧ After X.K X.mg (fun c dd H' => W c dd st H') (fun H' mu' J items => ServesE X.K J H' mu' items) mu H (fi ds h) R) → wi st H R)
    (hg : ∀ v st H Q, (∃ d ds mu ds', RelS X.K X.mg [] H mu st ds ∧ Rp X.K H v d ∧ ft d ds = some ds' ∧ ∀ st', RelS X.K X.mg [] H mu st' ds' → TgOk is st ds st' ds' → Q st' H) → g v st H Q)
    (ht : ∀ st H Q, (∃ ds mu h, RelS X.K X.mg [] H mu st ds ∧ RelH X.K H mu h ∧ After X.K X.mg (fun c dd H' => False) (fun _ _ (v : Bool) b => v = b) mu H (tt ds h) Q) → t st H Q)
    (he : ∀ st H Q, (∃ ds mu h, RelS X.K X.mg [] H mu st ds ∧ RelH X.K H mu h ∧ After X.K X.mg (fun c dd H' => False) (rSV X.K) mu H (fe ds h) Q) → te st H Q) :
    ∀ st H Q, LF X W (fLc fi ft tt fe vs) st H Q → tLc wi g t te vs st H Q := by
  rintro st H Q ⟨ds, mu, h, rs, rh, q⟩
  have q : After X.K X.mg (fun c dd H' => W c dd st H') (fun H' mu' v l => ∃ a xs, v = V.ref a ∧ H a = none ∧ a ∉ mu' ∧ H' a = some (.lst xs) ∧ RpAll X.K H' xs l) mu H ((fi ds h).bind fun items h1 => iff (items.length ≤ sizeLine) (compL ft tt fe (dwipe ds vs) items h1)) Q := q
  refine hwi st H _ ⟨ds, mu, h, rs, rh, After.step q fun items h1 J H1 mu1 eo e1 rh1 sv q1 => ?_⟩
  rw [eo] at q
  have q : After X.K X.mg (fun c dd H' => W c dd st H') (fun H' mu' v l => ∃ a xs, v = V.ref a ∧ H a = none ∧ a ∉ mu' ∧ H' a = some (.lst xs) ∧ RpAll X.K H' xs l) mu H (iff (items.length ≤ sizeLine) (compL ft tt fe (dwipe ds vs) items h1)) Q := q
  obtain ⟨hz, q⟩ := q.iff
  intro D0 hD
  have hD0 : H D0 = none := by
    cases z : H D0 with
    | none => rfl
    | some u => exact absurd hD (e1.live D0 (by rw [z]; simp))
  cases eq : compL ft tt fe (dwipe ds vs) items h1 with
  | bad => rw [eq] at q; exact q.elim
  | exc x h2 => exact absurd eq (compL_exc _ _ _ _)
  | ok l hf =>
    rw [eq] at q
    refine ⟨fun i m H' => m = items.length - i ∧ i ≤ items.length ∧ ∃ mu' hh xs acc lr, Ext mu1 H1 mu' H' ∧ RelH X.K H' mu' hh ∧ H' D0 = some (.lst xs) ∧ D0 ∉ mu' ∧ RpAll X.K H' xs acc ∧ acc.length ≤ i ∧ compL ft tt fe (dwipe ds vs) (items.drop i) hh = .ok lr hf ∧ acc ++ lr = l,
      ⟨items.length, by simp, by simp, mu1, h1, [], [], l, ext_new hD, rh1.new hD, upd_same, rh1.notin hD, .nil, by simp, by rw [List.drop_zero]; exact eq, rfl⟩, ?_⟩
    rintro i m H2 ⟨rfl, hi, mu2, hh, xs, acc, lr, e2, rh2, eD, nD, ra, la, ec, el⟩
    obtain ⟨sgo, sst⟩ := sv i H2 mu2 e2
    by_cases hlt : i < items.length
    · right
      have hx : items[i]? = some items[i] := List.getElem?_eq_getElem hlt
      obtain ⟨go, yl⟩ := sgo _ hx
      refine ⟨go, fun H' => ∃ mu' hh xs acc lr, Ext mu1 H1 mu' H' ∧ RelH X.K H' mu' hh ∧ H' D0 = some (.lst xs) ∧ D0 ∉ mu' ∧ RpAll X.K H' xs acc ∧ acc.length ≤ i + 1 ∧ compL ft tt fe (dwipe ds vs) (items.drop (i + 1)) hh = .ok lr hf ∧ acc ++ lr = l,
        fun H' hn => ⟨items.length - (i + 1), by omega, rfl, hlt, hn⟩, fun v H3 hy => ?_⟩
      obtain ⟨e3, rv⟩ := yl v H3 hy
      rw [List.drop_eq_getElem_cons hlt] at ec
      unfold compL at ec
      cases etg : ft items[i] (dwipe ds vs) with
      | none => rw [etg] at ec; cases ec
      | some ds1 =>
        rw [etg, orBad_some] at ec
        -- the item's own heap
        have e3' : Ext mu2 H2 mu2 H3 := ⟨e3.mono, fun b u q _ => e3.keep b u q (by simp), ⟨[], by simp, by simp⟩, e3.live⟩
        have rh3 : RelH X.K H3 mu2 hh := rh2.same e3' fun a _ u q => e3.keep a u q (by simp)
        have e13 := e2.trans e3'
        have eD3 : H3 D0 = some (.lst xs) := e3.keep _ _ eD (by simp)
        have rb : RelS X.K X.mg [] H3 mu2 (wipe st vs) (dwipe ds vs) := ((rs.ext e1).ext e13).blk vs
        refine hg v (wipe st vs) H3 _ ⟨items[i], dwipe ds vs, mu2, ds1, rb, rv, etg, fun st' rs' tk => ⟨by rw [wipe_tg tk hsub, wipe_wipe], ?_⟩⟩
        refine ht st' H3 _ ⟨ds1, mu2, hh, rs', rh3, ?_⟩
        cases ett : tt ds1 hh with
        | bad => rw [ett] at ec; cases ec
        | exc _ _ => rw [ett] at ec; cases ec
        | ok b h4 =>
          rw [ett, Out.calm_ok, Out.bind_ok] at ec
          intro b' H4 mu4 e4 rh4 eb
          subst eb
          have e14 := e13.trans e4
          have eD4 := e4.keep _ _ eD3 nD
          have nD4 := e4.notin eD3 nD
          have ra4 := (ra.mono e3'.mono).mono e4.mono
          cases b' with
          | false => exact iteF ⟨mu4, h4, xs, acc, lr, e14, rh4, eD4, nD4, ra4, by omega, ec, el⟩
          | true =>
            refine iteT (he st' H4 _ ⟨ds1, mu4, h4, rs'.ext e4, rh4, ?_⟩)
            have ec : ((fe ds1 h4).calm.bind fun y h2 => orBad (asVal y) fun d => (compL ft tt fe (dwipe ds vs) (items.drop (i + 1)) h2).bind fun l h3 => .ok (d :: l) h3) = .ok lr hf := ec
            cases efe : fe ds1 h4 with
            | bad => rw [efe] at ec; cases ec
            | exc _ _ => rw [efe] at ec; cases ec
            | ok y h5 =>
              rw [efe, Out.calm_ok, Out.bind_ok] at ec
              cases ev : asVal y with
              | none => rw [ev] at ec; cases ec
              | some d =>
                rw [ev, orBad_some] at ec
                have ey := asVal_of ev
                subst ey
                cases er : compL ft tt fe (dwipe ds vs) (items.drop (i + 1)) h5 with
                | bad => rw [er] at ec; cases ec
                | exc _ _ => rw [er] at ec; cases ec
                | ok l2 h6 =>
                  rw [er, Out.bind_ok] at ec
                  cases ec
                  intro w H5 mu5 e5 rh5 rw5
                  have eD5 := e5.keep _ _ eD4 nD4
                  have nD5 := e5.notin eD4 nD4
                  have ra5 := ra4.mono e5.mono
                  refine ⟨xs, eD5, by rw [ra5.length]; omega, mu5, h5, xs ++ [w], acc ++ [d], l2, (e14.trans e5).setL hD eD5, rh5.setL nD5 eD5, upd_same, nD5, ?_, by rw [List.length_append]; simp; omega, er, by rw [List.append_assoc]; exact el⟩
                  exact (ra5.append (.cons rw5 .nil)).mono (mono_setL eD5)
    · left
      have ei : i = items.length := by omega
      subst ei
      refine ⟨sst (Nat.le_refl _), ?_⟩
      rw [List.drop_length] at ec
      unfold compL at ec
      cases ec
      rw [List.append_nil] at el
      subst el
      exact q _ H2 mu2 (e1.trans e2) rh2 ⟨D0, xs, rfl, hD0, nD, eD, ra⟩
theorem fm_lcC (hc : X.calm = true) (hN : X.N.Nodup) (hi : IC X W tg iter fi) (ok : BlkOk X.N X.env.scope scope own)
    (hg : ∀ (s : Shared) (H : Hp) (C : Addr) (cl : List (Str × Addr)) (fp : List Addr), GM (X.blk s H scope (compEnvC scope cl C X.env) fp) tg is ft) (ht : ∀ (s : Shared) (H : Hp) (C : Addr) (cl : List (Str × Addr)) (fp : List Addr), SM (X.blk s H scope (compEnvC scope cl C X.env) fp) NW ifs tt)
    (he : ∀ (s : Shared) (H : Hp) (C : Addr) (cl : List (Str × Addr)) (fp : List Addr), EM (X.blk s H scope (compEnvC scope cl C X.env) fp) NW elt fe) (hsub : ∀ i ∈ is, i ∈ own.map (·.2)) (hs : ∀ x, foldedSetIterable iter X.env x = pure x := by intro _; rfl) :
    FM X W (.ListComp elt [⟨tg, iter, ifs, 0⟩] scope pos) (fLc fi ft tt fe (own.map (·.2))) :=
  ⟨PE.imp (pe_lc hc hN hi.pi ok (fun s H C cl fp => (hg s H C cl fp).pg) (fun s H C cl fp => (ht s H C cl fp).pts) (fun s H C cl fp => (he s H C cl fp).pe) hs)
    (LF.compC hsub (fun _ _ _ q => q) (fun _ _ _ _ q => q) (fun _ _ _ q => q) fun _ _ _ q => q)⟩
end
section
variable {X : Cx} {W : WX} {mu0 : List Addr} {pos pos2 : Pos} {i : Nat} {x : Str}
theorem pm_ownLcC {y : Str} {py : Pos} {elt tg iter : Expr} {ifs : List Expr} {scope : Scope} {own : List (Str × Nat)} {spos : Pos} {fi : DS → LH → Out (List D)} {ftg : D → DS → Option DS} {tt : DS → LH → Out Bool} {fe : DS → LH → Out SV} {is : List Nat}
    (hc : X.calm = true) (hN : X.N.Nodup) (hy : X.N[i]? = some y) (hyl : X.env.scope.names.lookup y = some .local)
    (hsw : swapsWith (.ListComp elt [⟨tg, iter, ifs, 0⟩] scope pos) (some (.Name y py)) spos.line X.env = pure true) (hi : IC X W tg iter fi) (ok : BlkOk X.N X.env.scope scope own)
    (hg : ∀ (s : Shared) (H : Hp) (C : Addr) (cl : List (Str × Addr)) (fp : List Addr), GM (X.blk s H scope (compEnvC scope cl C X.env) fp) tg is ftg) (ht : ∀ (s : Shared) (H : Hp) (C : Addr) (cl : List (Str × Addr)) (fp : List Addr), SM (X.blk s H scope (compEnvC scope cl C X.env) fp) NW ifs tt)
    (he : ∀ (s : Shared) (H : Hp) (C : Addr) (cl : List (Str × Addr)) (fp : List Addr), EM (X.blk s H scope (compEnvC scope cl C X.env) fp) NW elt fe) (hsub : ∀ i ∈ is, i ∈ own.map (·.2)) (hs : ∀ x, foldedSetIterable iter X.env x = pure x := by intro _; rfl) :
    PM X W mu0 (.Assign [.Name y py] (.ListComp elt [⟨tg, iter, ifs, 0⟩] scope pos) spos) (sOwn i (fLc fi ftg tt fe (own.map (·.2)))) :=
  ⟨PS.imp (ps_setLc hc hN hy hyl hsw hi.pi ok (fun s H C cl fp => (hg s H C cl fp).pg) (fun s H C cl fp => (ht s H C cl fp).pts) (fun s H C cl fp => (he s H C cl fp).pe) hs) fun E st H ⟨ds, mu, h, r, q⟩ =>
    LF.compC (W := W) hsub (fun _ _ _ q => q) (fun _ _ _ _ q => q) (fun _ _ _ q => q) (fun _ _ _ q => q) st H (fun x H1 => gName i x st H1 E.nx) ⟨ds, mu, h, r.rs, r.rh, LS.expr r q fun l h1 v H1 mu1 _ e1 r1 rv q1 => by
      obtain ⟨a, xs, rfl, n, nm, e, rr⟩ := rv
      exact q1 _ H1 mu1 (r.newOwn r1 n e nm rr) (.refl _)⟩⟩
end
end U
/-! Y1: typed data over the layer's data; what a mirror's expression computes, in types. -/
namespace U
open PySem PySem.Spec PyProof.Rows L2

/-! ### types -/
/-- how data of a Lean type are written as data; n: how deep (1000 and more: no bound) -/
structure Ty (α : Type) where
  enc : α → D
  dec : D → Option α
  n : Nat
  ok : ∀ d a, dec d = some a → d = enc a
  pl : n < 100 → ∀ a, (enc a).plain = true ∧ (enc a).depth ≤ n
/-- a fixed row of types -/
structure TyL (α : Type) where
  encL : α → List D
  decL : List D → Option α
  n : Nat
  ok : ∀ d a, decL d = some a → d = encL a
  pl : n < 100 → ∀ a, PyData.plainAll (encL a) = true ∧ PyData.depthAll (encL a) ≤ n
def tI : Ty Int where
  enc := .int
  dec := fun d => match d with | .int i => some i | _ => none
  n := 0
  ok := fun d a h => by cases d <;> first | (cases h; rfl) | cases h
  pl := fun _ a => ⟨rfl, Nat.le_refl 0⟩
def tB : Ty Bool where
  enc := .bool
  dec := fun d => match d with | .bool i => some i | _ => none
  n := 0
  ok := fun d a h => by cases d <;> first | (cases h; rfl) | cases h
  pl := fun _ a => ⟨rfl, Nat.le_refl 0⟩
def tS : Ty Str where
  enc := .str
  dec := fun d => match d with | .str i => some i | _ => none
  n := 0
  ok := fun d a h => by cases d <;> first | (cases h; rfl) | cases h
  pl := fun _ a => ⟨rfl, Nat.le_refl 0⟩
def tN : Ty Unit where
  enc := fun _ => .none
  dec := fun d => match d with | .none => some () | _ => none
  n := 0
  ok := fun d a h => by cases d <;> first | (cases h; rfl) | cases h
  pl := fun _ a => ⟨rfl, Nat.le_refl 0⟩
def tD : Ty D where
  enc := id
  dec := some
  n := 1000
  ok := fun d a h => by cases h; rfl
  pl := fun h => absurd h (by decide)
def nilT : TyL Unit where
  encL := fun _ => []
  decL := fun l => match l with | [] => some () | _ => none
  n := 0
  ok := fun l a h => by
    match l, h with
    | [], h => rfl
  pl := fun h a => ⟨rfl, Nat.le_refl 0⟩
def oneT {α : Type} (t : Ty α) : TyL α where
  encL := fun a => [t.enc a]
  decL := fun l => match l with | [d] => t.dec d | _ => none
  n := t.n
  ok := fun l a h => by
    match l, h with
    | [d], h => rw [t.ok d a h]
  pl := fun h a => by
    obtain ⟨h1, h2⟩ := t.pl h a
    exact ⟨by rw [PyData.plainAll, PyData.plainAll, h1]; rfl, by rw [PyData.depthAll, PyData.depthAll]; omega⟩
def consT {α β : Type} (t : Ty α) (u : TyL β) : TyL (α × β) where
  encL := fun p => t.enc p.1 :: u.encL p.2
  decL := fun l => match l with
    | [] => none
    | d :: r => match t.dec d, u.decL r with
      | some a, some b => some (a, b)
      | _, _ => none
  n := max t.n u.n
  ok := fun l p h => by
    match l, h with
    | d :: r, h =>
      simp only [] at h
      cases e1 : t.dec d with
      | none => rw [e1] at h; cases h
      | some a =>
        cases e2 : u.decL r with
        | none => rw [e1, e2] at h; cases h
        | some b => rw [e1, e2] at h; cases h; rw [t.ok _ _ e1, u.ok _ _ e2]
  pl := fun h a => by
    obtain ⟨h1, h2⟩ := t.pl (by omega) a.1
    obtain ⟨h3, h4⟩ := u.pl (by omega) a.2
    exact ⟨by rw [PyData.plainAll, h1, h3]; rfl, by rw [PyData.depthAll]; omega⟩
def tT {α : Type} (u : TyL α) : Ty α where
  enc := fun a => .tuple (u.encL a)
  dec := fun d => match d with | .tuple l => u.decL l | _ => none
  n := u.n + 1
  ok := fun d a h => by
    cases d with
    | tuple l => rw [u.ok l a h]
    | _ => cases h
  pl := fun h a => by
    obtain ⟨h1, h2⟩ := u.pl (by omega) a
    exact ⟨by rw [PyData.plain, h1], by rw [PyData.depth]; omega⟩
def decAll {α : Type} (t : Ty α) : List D → Option (List α)
  | [] => some []
  | d :: r => match t.dec d, decAll t r with
    | some a, some l => some (a :: l)
    | _, _ => none
theorem decAll_ok {α : Type} (t : Ty α) : ∀ (l : List D) (a : List α), decAll t l = some a → l = a.map t.enc
  | [], a, h => by cases h; rfl
  | d :: r, a, h => by
    unfold decAll at h
    cases e1 : t.dec d with
    | none => rw [e1] at h; cases h
    | some b =>
      cases e2 : decAll t r with
      | none => rw [e1, e2] at h; cases h
      | some m => rw [e1, e2] at h; cases h; rw [t.ok _ _ e1, decAll_ok t _ _ e2]; rfl
theorem plAll {α : Type} (t : Ty α) (h : t.n < 100) : ∀ l : List α, PyData.plainAll (l.map t.enc) = true ∧ PyData.depthAll (l.map t.enc) ≤ t.n
  | [] => ⟨rfl, Nat.zero_le _⟩
  | a :: l => by
    obtain ⟨h1, h2⟩ := t.pl h a
    obtain ⟨h3, h4⟩ := plAll t h l
    exact ⟨by rw [List.map_cons, PyData.plainAll, h1, h3]; rfl, by rw [List.map_cons, PyData.depthAll]; omega⟩
def tL {α : Type} (t : Ty α) : Ty (List α) where
  enc := fun l => .list (l.map t.enc)
  dec := fun d => match d with | .list l => decAll t l | _ => none
  n := t.n + 1
  ok := fun d a h => by
    cases d with
    | list l => rw [decAll_ok t l a h]
    | _ => cases h
  pl := fun h a => by
    obtain ⟨h1, h2⟩ := plAll t (by omega) a
    exact ⟨by rw [PyData.plain, h1], by rw [PyData.depth]; omega⟩
def tU {α : Type} (t : Ty α) : Ty (List α) where
  enc := fun l => .tuple (l.map t.enc)
  dec := fun d => match d with | .tuple l => decAll t l | _ => none
  n := t.n + 1
  ok := fun d a h => by
    cases d with
    | tuple l => rw [decAll_ok t l a h]
    | _ => cases h
  pl := fun h a => by
    obtain ⟨h1, h2⟩ := plAll t (by omega) a
    exact ⟨by rw [PyData.plain, h1], by rw [PyData.depth]; omega⟩
def optE {α : Type} (f : α → D) : Option α → D
  | none => .none
  | some a => f a
def tO {α : Type} (t : Ty α) : Ty (Option α) where
  enc := optE t.enc
  dec := fun d => match d with | .none => some none | d => (t.dec d).map some
  n := t.n
  ok := fun d a h => by
    by_cases e : d = .none
    · subst e; cases h; rfl
    · have h : (t.dec d).map some = some a := by
        cases d <;> first | exact absurd rfl e | exact h
      obtain ⟨b, hb, rfl⟩ := Option.map_eq_some_iff.mp h
      exact t.ok d b hb
  pl := fun h a => by
    cases a with
    | none => exact ⟨rfl, Nat.zero_le _⟩
    | some a => exact t.pl h a

/-! ### what is computed, in types -/
abbrev T (α : Type) := LH → Out α
def T.pure {α : Type} (a : α) : T α := fun h => .ok a h
def T.bind {α β : Type} (t : T α) (k : α → T β) : T β := fun h => (t h).bind fun a h1 => k a h1
def T.bad {α : Type} : T α := fun _ => .bad
def T.raise {α : Type} (x : XV) : T α := fun h => .exc x h
def T.calm {α : Type} (t : T α) : T α := fun h => (t h).calm
def T.guard {α : Type} (c : Prop) [Decidable c] (t : T α) : T α := fun h => if c then t h else .bad
def T.opt {α : Type} (o : Option α) : T α := fun h => match o with
  | some a => .ok a h
  | none => .bad
@[simp] theorem T.opt_some {α : Type} (a : α) : T.opt (some a) = T.pure a := rfl
@[simp] theorem T.opt_none {α : Type} : T.opt (none : Option α) = T.bad := rfl
@[simp] theorem T.pure_bind {α β : Type} (a : α) (k : α → T β) : T.bind (T.pure a) k = k a := rfl
theorem T.guard_pos {α : Type} {c : Prop} [Decidable c] (hc : c) (t : T α) : T.guard c t = t := funext fun h => if_pos hc
@[simp] theorem T.bind_assoc {α β γ : Type} (t : T α) (k : α → T β) (m : β → T γ) : T.bind (T.bind t k) m = T.bind t fun a => T.bind (k a) m := funext fun h => by
  show ((t h).bind _).bind _ = (t h).bind _
  cases t h <;> rfl
@[simp] theorem T.bind_pure {α : Type} (t : T α) : T.bind t T.pure = t := funext fun h => by
  show (t h).bind _ = t h
  cases t h <;> rfl
@[simp] theorem T.raise_bind {α β : Type} (x : XV) (k : α → T β) : T.bind (T.raise x) k = T.raise x := rfl
@[simp] theorem T.calm_pure {α : Type} (a : α) : T.calm (T.pure a) = T.pure a := rfl
/-- o is what r is, written by e; nothing where r is bad -/
def SE {α β : Type} (e : α → β) (o : Out β) (r : Out α) : Prop := match r with
  | .ok a h => o = .ok (e a) h
  | .exc x h => o = .exc x h
  | .bad => True
theorem SE.bind {α β γ δ : Type} {e : α → β} {e' : γ → δ} {o : Out β} {r : Out α} {k : β → LH → Out δ} {k' : α → LH → Out γ} (p : SE e o r) (q : ∀ a h, SE e' (k (e a) h) (k' a h)) : SE e' (o.bind k) (r.bind k') := by
  cases r with
  | ok a h => have p : o = .ok (e a) h := p; rw [p]; exact q a h
  | exc x h => have p : o = .exc x h := p; rw [p]; exact rfl
  | bad => trivial
def J {α β : Type} (ds : DS) (f : DS → LH → Out β) (e : α → β) (t : T α) : Prop := ∀ h, SE e (f ds h) (t h)
def PJ {β : Type} (ds : DS) (f : DS → LH → Out β) (s : β) : Prop := ∀ h, f ds h = .ok s h
theorem PJ.j {α β : Type} {ds : DS} {f : DS → LH → Out β} {e : α → β} {a : α} (p : PJ ds f (e a)) : J ds f e (T.pure a) := fun h => p h
abbrev v {α : Type} (t : Ty α) : α → SV := fun a => .val (t.enc a)
abbrev ow {α : Type} (t : Ty α) : List α → SV := fun a => .own (a.map t.enc)
/-- a result as a type's -/
def dy {α : Type} (t : Ty α) (o : Out SV) : Out α := match o with
  | .ok (.val d) h => match t.dec d with
    | some a => .ok a h
    | none => .bad
  | .exc x h => .exc x h
  | _ => .bad
theorem dy_se {α : Type} (t : Ty α) (o : Out SV) : SE (v t) o (dy t o) := by
  cases o with
  | ok s h =>
    cases s with
    | val d =>
      show SE (v t) _ (match t.dec d with | some a => .ok a h | none => .bad)
      cases e : t.dec d with
      | none => trivial
      | some a => show Out.ok (SV.val d) h = .ok (.val (t.enc a)) h; rw [t.ok d a e]
    | _ => trivial
  | exc x h => rfl
  | bad => trivial
theorem SE.map {α β γ : Type} {e : α → β} {e' : γ → β} {o : Out β} {r : Out α} (p : SE e o r) (g : α → γ) (q : ∀ a, e' (g a) = e a) : SE e' o (r.bind fun a h => .ok (g a) h) := by
  cases r with
  | ok a h => exact (show o = .ok (e a) h from p).trans (by rw [← q a])
  | exc x h => exact p
  | bad => trivial
/-- another writing -/
theorem J.map {α β γ : Type} {ds : DS} {f : DS → LH → Out β} {e : α → β} {e' : γ → β} {t : T α} {g : α → γ} (p : J ds f e t) (q : ∀ a, e' (g a) = e a) : J ds f e' (T.bind t fun a => T.pure (g a)) := fun h => (p h).map g q
/-- a dynamic value taken as a type's -/
def cast {α : Type} (t : Ty α) (d : D) : T α := fun h => match t.dec d with
  | some a => .ok a h
  | none => .bad
theorem J.castP {α : Type} {ds : DS} {f : DS → LH → Out SV} {d : D} {t : Ty α} (p : PJ ds f (.val d)) : J ds f (v t) (cast t d) := fun h => by
  rw [p h]
  show SE (v t) _ (U.cast t d h)
  unfold U.cast
  cases e1 : t.dec d with
  | none => trivial
  | some a => show Out.ok (SV.val d) h = .ok (.val (t.enc a)) h; rw [t.ok d a e1]
theorem J.cast {α : Type} {ds : DS} {f : DS → LH → Out SV} {u : T D} {t : Ty α} (p : J ds f (v tD) u) : J ds f (v t) (T.bind u fun d => cast t d) := fun h => by
  have p := p h
  show SE (v t) (f ds h) ((u h).bind _)
  cases e : u h with
  | ok d h1 =>
    rw [e] at p
    have p : f ds h = .ok (.val d) h1 := p
    rw [p]
    show SE (v t) _ (U.cast t d h1)
    unfold U.cast
    cases e1 : t.dec d with
    | none => trivial
    | some a => show Out.ok (SV.val d) h1 = .ok (.val (t.enc a)) h1; rw [t.ok d a e1]
  | exc x h1 => rw [e] at p; exact p
  | bad => trivial

section
variable {α β γ δ : Type} {ds : DS} {fa fb fc : DS → LH → Out SV} {ea : α → SV} {eb : β → SV} {ec : γ → SV} {ta : T α} {tb : T β} {g g' : SV → SV → LH → Out SV} {x y z : SV}
/-! ### operators -/
theorem PJ.bin (pa : PJ ds fa x) (pb : PJ ds fb y) (q : ∀ h, g x y h = .ok z h) : PJ ds (eBin g fa fb) z := fun h => bin_ok (pa h) (pb h) (q h)
theorem J.binPP {k : T γ} (pa : PJ ds fa x) (pb : PJ ds fb y) (q : ∀ h, SE ec (g x y h) (k h)) : J ds (eBin g fa fb) ec k := fun h => by
  rw [show eBin g fa fb ds h = g x y h from bin_ok (pa h) (pb h) rfl]
  exact q h
theorem J.binMP {k : α → T γ} (pa : J ds fa ea ta) (pb : PJ ds fb y) (q : ∀ a h, SE ec (g (ea a) y h) (k a h)) : J ds (eBin g fa fb) ec (T.bind ta k) := fun h =>
  (pa h).bind fun a h1 => by
    show SE ec ((fb ds h1).bind _) _
    rw [pb h1]
    exact q a h1
theorem J.binPM {k : β → T γ} (pa : PJ ds fa x) (pb : J ds fb eb tb) (q : ∀ b h, SE ec (g x (eb b) h) (k b h)) : J ds (eBin g fa fb) ec (T.bind tb k) := fun h => by
  show SE ec ((fa ds h).bind _) _
  rw [pa h]
  exact (pb h).bind fun b h2 => q b h2
theorem J.binMM {k : α → β → T γ} (pa : J ds fa ea ta) (pb : J ds fb eb tb) (q : ∀ a b h, SE ec (g (ea a) (eb b) h) (k a b h)) : J ds (eBin g fa fb) ec (T.bind ta fun a => T.bind tb fun b => k a b) := fun h =>
  (pa h).bind fun a h1 => (pb h1).bind fun b h2 => q a b h2
theorem PJ.un {u : SV → LH → Out SV} (pa : PJ ds fa x) (q : ∀ h, u x h = .ok z h) : PJ ds (eUn u fa) z := fun h => by
  show (fa ds h).bind _ = _
  rw [pa h]
  exact q h
theorem J.un {u : SV → LH → Out SV} {k : α → T γ} (pa : J ds fa ea ta) (q : ∀ a h, SE ec (u (ea a) h) (k a h)) : J ds (eUn u fa) ec (T.bind ta k) := fun h => (pa h).bind fun a h1 => q a h1

/-! ### rows of arguments -/
def AC {γ δ : Type} (ds : DS) (fs : DS → LH → Out (List SV)) (g : List SV → LH → Out δ) (ec : γ → δ) (t : T γ) : Prop := ∀ h, SE ec ((fs ds h).bind g) (t h)
theorem AC.nil {u : List SV → LH → Out δ} {ec : γ → δ} {t : T γ} (q : ∀ h, SE ec (u [] h) (t h)) : AC ds aNil u ec t := fun h => q h
theorem AC.p {fs : DS → LH → Out (List SV)} {u : List SV → LH → Out δ} {ec : γ → δ} {t : T γ} (pa : PJ ds fa x) (q : AC ds fs (fun xs => u (x :: xs)) ec t) : AC ds (aCons fa fs) u ec t := fun h => by
  have q := q h
  show SE ec (((fa ds h).bind _).bind _) _
  rw [pa h]
  show SE ec (((fs ds h).bind _).bind _) _
  cases e : fs ds h with
  | ok xs h1 => rw [e] at q; exact q
  | exc y h1 => rw [e] at q; exact q
  | bad => rw [e] at q; exact q
theorem AC.m {fs : DS → LH → Out (List SV)} {u : List SV → LH → Out δ} {ec : γ → δ} {k : α → T γ} (pa : J ds fa ea ta) (q : ∀ a, AC ds fs (fun xs => u (ea a :: xs)) ec (k a)) : AC ds (aCons fa fs) u ec (T.bind ta k) := fun h => by
  have pa := pa h
  show SE ec (((fa ds h).bind _).bind _) ((ta h).bind _)
  cases e1 : ta h with
  | ok a h1 =>
    rw [e1] at pa
    have pa : fa ds h = .ok (ea a) h1 := pa
    rw [pa]
    have q := q a h1
    show SE ec (((fs ds h1).bind _).bind _) _
    cases e : fs ds h1 with
    | ok xs h2 => rw [e] at q; exact q
    | exc y h2 => rw [e] at q; exact q
    | bad => rw [e] at q; exact q
  | exc y h1 => rw [e1] at pa; have pa : fa ds h = .exc y h1 := pa; rw [pa]; exact rfl
  | bad => trivial
theorem J.args {fs : DS → LH → Out (List SV)} {u : List SV → LH → Out SV} {t : T γ} (q : AC ds fs u ec t) : J ds (eArgs u fs) ec t := q
theorem J.argsF {fs : DS → LH → Out (List SV)} {ec : γ → List D} {t : T γ} (q : AC ds fs (fun xs h1 => orBad (asVals xs) fun ds => iff (ds.length ≤ sizeLine) (.ok ds h1)) ec t) : J ds (eArgsF fs) ec t := q
/-- all of them plain -/
def PA (ds : DS) (fs : DS → LH → Out (List SV)) (xs : List SV) : Prop := ∀ h, fs ds h = .ok xs h
theorem PA.nil : PA ds aNil [] := fun _ => rfl
theorem PA.cons {fs : DS → LH → Out (List SV)} {xs : List SV} (pa : PJ ds fa x) (q : PA ds fs xs) : PA ds (aCons fa fs) (x :: xs) := fun h => aCons_ok (pa h) (q h)
theorem PJ.args {fs : DS → LH → Out (List SV)} {xs : List SV} {u : List SV → LH → Out SV} (q : PA ds fs xs) (e : ∀ h, u xs h = .ok z h) : PJ ds (eArgs u fs) z := fun h => args_ok (q h) (e h)

/-! ### calls of defs -/
/-- the def's promise in types: run answers as F -/
theorem call_se {run : RF} {xs : List SV} {n : Nat} {r : T α} (hn : xs.length = n) (hh : xs.all handB = true) (ho : ∀ a, (match ea a with | .own _ => false | _ => true) = true) (q : ∀ h, SE ea (run xs h) (r h)) : ∀ h, SE ea (nArgs n (gCall run) xs h) (r h) := fun h => by
  have q := q h
  rw [show nArgs n (gCall run) xs h = gCall run xs h from iff_t hn _]
  unfold gCall
  rw [iff_t hh]
  cases e : r h with
  | ok a h1 =>
    rw [e] at q
    have q : run xs h = .ok (ea a) h1 := q
    rw [q]
    have := ho a
    show (match (Out.ok (ea a) h1 : Out SV) with | .ok (.own _) _ => Out.bad | o => o) = _
    cases e2 : ea a <;> rw [e2] at this <;> first | rfl | cases this
  | exc x h1 => rw [e] at q; have q : run xs h = .exc x h1 := q; rw [q]; exact rfl
  | bad => trivial

theorem call_dy {n : Nat} {g : List SV → LH → Out SV} {xs : List SV} {t : Ty α} (hn : xs.length = n) : ∀ h, SE (v t) (nArgs n g xs h) (dy t (g xs h)) := fun h => by
  rw [show nArgs n g xs h = g xs h from iff_t hn _]
  exact dy_se t _
/-! ### tests -/
variable {ft fu : DS → LH → Out Bool} {b c : Bool} {t u : T Bool}
abbrev idB : Bool → Bool := fun b => b
theorem PJ.tOf (pa : PJ ds fa (.val (.bool b))) : PJ ds (U.tOf fa) b := fun h => tOf_ok (pa h)
theorem J.tOf (pa : J ds fa (v tB) t) : J ds (U.tOf fa) idB t := fun h => by
  have pa := pa h
  show SE idB ((fa ds h).bind _) _
  cases e : t h with
  | ok a h1 => rw [e] at pa; have pa : fa ds h = .ok (.val (.bool a)) h1 := pa; rw [pa]; exact rfl
  | exc x h1 => rw [e] at pa; have pa : fa ds h = .exc x h1 := pa; rw [pa]; exact rfl
  | bad => trivial
theorem PJ.tTru (pa : PJ ds fa x) (q : tru x = some b) : PJ ds (U.tTru fa) b := fun h => by
  show ((fa ds h).bind _) = _
  rw [pa h]
  show orBad (tru x) _ = _
  rw [q]
  rfl
theorem J.tTru {r : α → Bool} (pa : J ds fa ea ta) (q : ∀ a, tru (ea a) = some (r a)) : J ds (U.tTru fa) idB (T.bind ta fun a => T.pure (r a)) := fun h => (pa h).bind fun a h1 => by
  show SE idB (orBad (tru (ea a)) _) _
  rw [q a]
  exact rfl
theorem J.tTruB (pa : J ds fa (v tB) t) : J ds (U.tTru fa) idB t := fun h => by
  have pa := pa h
  show SE idB ((fa ds h).bind _) _
  cases e : t h with
  | ok a h1 => rw [e] at pa; have pa : fa ds h = .ok (.val (.bool a)) h1 := pa; rw [pa]; exact rfl
  | exc x h1 => rw [e] at pa; have pa : fa ds h = .exc x h1 := pa; rw [pa]; exact rfl
  | bad => trivial
theorem PJ.tNot (pa : PJ ds ft b) : PJ ds (tNot' ft) (!b) := fun h => tNot_ok (pa h)
theorem J.tNot (pa : J ds ft idB t) : J ds (tNot' ft) idB (T.bind t fun b => T.pure (!b)) := fun h => (pa h).bind fun a h1 => rfl
theorem PJ.tAnd (pa : PJ ds ft b) (pb : PJ ds fu c) : PJ ds (tAnd' ft fu) (b && c) := fun h => tAnd_ok (pa h) (pb h)
theorem PJ.tOr (pa : PJ ds ft b) (pb : PJ ds fu c) : PJ ds (tOr' ft fu) (b || c) := fun h => tOr_ok (pa h) (pb h)
theorem J.tAndP (pa : PJ ds ft b) (pb : J ds fu idB u) : J ds (tAnd' ft fu) idB (if b then u else T.pure false) := fun h => by
  show SE idB ((ft ds h).bind _) _
  rw [pa h]
  cases b with
  | true => exact pb h
  | false => exact rfl
theorem J.tOrP (pa : PJ ds ft b) (pb : J ds fu idB u) : J ds (tOr' ft fu) idB (if b then T.pure true else u) := fun h => by
  show SE idB ((ft ds h).bind _) _
  rw [pa h]
  cases b with
  | true => exact rfl
  | false => exact pb h
theorem J.tAnd (pa : J ds ft idB t) (pb : J ds fu idB u) : J ds (tAnd' ft fu) idB (T.bind t fun b => if b then u else T.pure false) := fun h => (pa h).bind fun a h1 => by
  cases a with
  | true => exact pb h1
  | false => exact rfl
theorem J.tOr (pa : J ds ft idB t) (pb : J ds fu idB u) : J ds (tOr' ft fu) idB (T.bind t fun b => if b then T.pure true else u) := fun h => (pa h).bind fun a h1 => by
  cases a with
  | true => exact rfl
  | false => exact pb h1
/-! ### and, or, not as values -/
theorem PJ.andV (pa : PJ ds fa (.val (.bool b))) (pb : PJ ds fb (.val (.bool c))) : PJ ds (eAndV fa fb) (.val (.bool (b && c))) := fun h => by
  show ((fa ds h).bind _) = _
  rw [pa h]
  cases b with
  | true => exact pb h
  | false => rfl
theorem PJ.orV (pa : PJ ds fa (.val (.bool b))) (pb : PJ ds fb (.val (.bool c))) : PJ ds (eOrV fa fb) (.val (.bool (b || c))) := fun h => by
  show ((fa ds h).bind _) = _
  rw [pa h]
  cases b with
  | true => rfl
  | false => exact pb h
theorem J.andVP (pa : PJ ds fa (.val (.bool b))) (pb : J ds fb (v tB) u) : J ds (eAndV fa fb) (v tB) (if b then u else T.pure false) := fun h => by
  show SE (v tB) ((fa ds h).bind _) _
  rw [pa h]
  cases b with
  | true => exact pb h
  | false => exact rfl
theorem J.orVP (pa : PJ ds fa (.val (.bool b))) (pb : J ds fb (v tB) u) : J ds (eOrV fa fb) (v tB) (if b then T.pure true else u) := fun h => by
  show SE (v tB) ((fa ds h).bind _) _
  rw [pa h]
  cases b with
  | true => exact rfl
  | false => exact pb h
theorem J.andV (pa : J ds fa (v tB) t) (pb : J ds fb (v tB) u) : J ds (eAndV fa fb) (v tB) (T.bind t fun b => if b then u else T.pure false) := fun h => (pa h).bind fun a h1 => by
  cases a with
  | true => exact pb h1
  | false => exact rfl
theorem J.orV (pa : J ds fa (v tB) t) (pb : J ds fb (v tB) u) : J ds (eOrV fa fb) (v tB) (T.bind t fun b => if b then T.pure true else u) := fun h => (pa h).bind fun a h1 => by
  cases a with
  | true => exact rfl
  | false => exact pb h1
theorem PJ.notV (pa : PJ ds fa (.val (.bool b))) : PJ ds (eNotV fa) (.val (.bool (!b))) := fun h => by
  show ((fa ds h).bind _) = _
  rw [pa h]
  rfl
theorem J.notV (pa : J ds fa (v tB) t) : J ds (eNotV fa) (v tB) (T.bind t fun b => T.pure (!b)) := fun h => (pa h).bind fun a h1 => rfl
/-! ### if-expressions -/
theorem PJ.ife {e : α → SV} {a a' : α} (pt : PJ ds ft b) (pa : PJ ds fa (e a)) (pb : PJ ds fb (e a')) : PJ ds (eIf ft fa fb) (e (if b then a else a')) := fun h => by
  show ((ft ds h).bind _) = _
  rw [pt h]
  cases b with
  | true => exact pa h
  | false => exact pb h
theorem J.ifeP {e : α → SV} {ta tb : T α} (pt : PJ ds ft b) (pa : J ds fa e ta) (pb : J ds fb e tb) : J ds (eIf ft fa fb) e (if b then ta else tb) := fun h => by
  show SE e ((ft ds h).bind _) _
  rw [pt h]
  cases b with
  | true => exact pa h
  | false => exact pb h
theorem J.ife {e : α → SV} {ta tb : T α} (pt : J ds ft idB t) (pa : J ds fa e ta) (pb : J ds fb e tb) : J ds (eIf ft fa fb) e (T.bind t fun b => if b then ta else tb) := fun h => (pt h).bind fun b h1 => by
  cases b with
  | true => exact pa h1
  | false => exact pb h1
/-! ### chains -/
theorem PJ.chain (pa : PJ ds fa x) (pb : PJ ds fb y) (q : ∀ h, g x y h = .ok (.val (.bool b)) h) (pc : PJ ds fc z) (q' : ∀ h, g' y z h = .ok (.val (.bool c)) h) : PJ ds (eChain g g' fa fb fc) (.val (.bool (b && c))) := fun h => by
  show ((fa ds h).bind _) = _
  rw [pa h]
  show ((fb ds h).bind _) = _
  rw [pb h]
  show ((g x y h).bind _) = _
  rw [q h]
  cases b with
  | false => rfl
  | true =>
    show ((fc ds h).bind _) = _
    rw [pc h]
    exact q' h
theorem J.chainPMP {k : β → Bool} {k' : β → Bool} (pa : PJ ds fa x) (pb : J ds fb eb tb) (q : ∀ a h, g x (eb a) h = .ok (.val (.bool (k a))) h) (pc : PJ ds fc z) (q' : ∀ a h, g' (eb a) z h = .ok (.val (.bool (k' a))) h) : J ds (eChain g g' fa fb fc) (v tB) (T.bind tb fun a => T.pure (k a && k' a)) := fun h => by
  show SE (v tB) ((fa ds h).bind _) _
  rw [pa h]
  refine (pb h).bind fun a h1 => ?_
  show (((g x (eb a) h1).bind _) : Out SV) = .ok (.val (.bool (k a && k' a))) h1
  rw [q a h1]
  cases e : k a with
  | false => rfl
  | true =>
    show (((fc ds h1).bind _) : Out SV) = _
    rw [pc h1]
    exact q' a h1
/-! ### slices -/
variable {lo hi : Option Int}
def PO' (ds : DS) (fl : DS → LH → Out (Option Int)) (lo : Option Int) : Prop := ∀ h, fl ds h = .ok lo h
theorem po_n : PO' ds oNone none := fun _ => rfl
theorem po_s {i : Int} (p : PJ ds fa (.val (.int i))) : PO' ds (oSome fa) (some i) := fun h => by
  show ((fa ds h).bind _) = _
  rw [p h]
  rfl
theorem PJ.sl {fl fu : DS → LH → Out (Option Int)} (pa : PJ ds fa x) (pl : PO' ds fl lo) (pu : PO' ds fu hi) (q : ∀ h, gSl x lo hi h = .ok z h) : PJ ds (eSl fa fl fu) z := fun h => by
  show ((fa ds h).bind _) = _
  rw [pa h]
  show ((fl ds h).bind _) = _
  rw [pl h]
  show ((fu ds h).bind _) = _
  rw [pu h]
  exact q h
theorem J.slP {fl fu : DS → LH → Out (Option Int)} {k : T γ} (pa : PJ ds fa x) (pl : PO' ds fl lo) (pu : PO' ds fu hi) (q : ∀ h, SE ec (gSl x lo hi h) (k h)) : J ds (eSl fa fl fu) ec k := fun h => by
  show SE ec ((fa ds h).bind _) _
  rw [pa h]
  show SE ec ((fl ds h).bind _) _
  rw [pl h]
  show SE ec ((fu ds h).bind _) _
  rw [pu h]
  exact q h
theorem J.sl {fl fu : DS → LH → Out (Option Int)} {k : α → T γ} (pa : J ds fa ea ta) (pl : PO' ds fl lo) (pu : PO' ds fu hi) (q : ∀ a h, SE ec (gSl (ea a) lo hi h) (k a h)) : J ds (eSl fa fl fu) ec (T.bind ta k) := fun h =>
  (pa h).bind fun a h1 => by
    show SE ec ((fl ds h1).bind _) _
    rw [pl h1]
    show SE ec ((fu ds h1).bind _) _
    rw [pu h1]
    exact q a h1
/-! ### isinstance, methods of texts -/
theorem opt_se (o : Option Bool) (h : LH) : SE (v tB) (orBad o fun b => .ok (.val (.bool b)) h) (T.opt o h) := by
  cases o with
  | none => trivial
  | some b => exact rfl
theorem PJ.isi {ty : String} {d : D} (pa : PJ ds fa (.val d)) (q : isiS ty (.val d) = some b) : PJ ds (eIsi ty fa) (.val (.bool b)) := fun h => by
  show ((fa ds h).bind _) = _
  rw [pa h]
  show orBad (isiS ty (.val d)) _ = _
  rw [q]
  rfl
theorem J.isiP {ty : String} (pa : PJ ds fa x) : J ds (eIsi ty fa) (v tB) (T.opt (isiS ty x)) := fun h => by
  show SE (v tB) ((fa ds h).bind _) _
  rw [pa h]
  exact opt_se _ h
theorem J.isi {ty : String} (pa : J ds fa ea ta) : J ds (eIsi ty fa) (v tB) (T.bind ta fun a => T.opt (isiS ty (ea a))) := fun h => (pa h).bind fun a h1 => by
  exact opt_se _ h1
theorem J.s1 {m : Str → SV → LH → Out SV} {s : Str} {k : T γ} (pa : PJ ds fa (.val (.str s))) (pb : PJ ds fb y) (q : ∀ h, SE ec (m s y h) (k h)) : J ds (eS1 m fa fb) ec k := fun h => by
  show SE ec ((fa ds h).bind _) _
  rw [pa h]
  show SE ec ((fb ds h).bind _) _
  rw [pb h]
  exact q h
theorem J.s1M {m : Str → SV → LH → Out SV} {ta : T Str} {k : Str → T γ} (pa : J ds fa (v tS) ta) (pb : PJ ds fb y) (q : ∀ s h, SE ec (m s y h) (k s h)) : J ds (eS1 m fa fb) ec (T.bind ta k) := fun h => (pa h).bind fun s h1 => by
  show SE ec ((fb ds h1).bind _) _
  rw [pb h1]
  exact q s h1
theorem J.s1PM {m : Str → SV → LH → Out SV} {s : Str} {k : β → T γ} (pa : PJ ds fa (.val (.str s))) (pb : J ds fb eb tb) (q : ∀ b h, SE ec (m s (eb b) h) (k b h)) : J ds (eS1 m fa fb) ec (T.bind tb k) := fun h => by
  show SE ec ((fa ds h).bind _) _
  rw [pa h]
  exact (pb h).bind fun b h1 => q b h1
end
end U
/-! Y2: operations in types. -/
namespace U
open PySem PySem.Spec PyProof.Rows L2
section
variable {α β γ : Type} {t : Ty α} {u : Ty β}
/-! ### rows of items: lists, tuples, one's own lists -/
structure SqE (e : List α → SV) (t : Ty α) : Prop where
  seq : ∀ l, asSeq (e l) = some (l.map t.enc)
  ns : ∀ l, asStr (e l) = none
  len : ∀ l, lenS (e l) = some l.length
  nr : ∀ l h, refLst h (e l) = none
theorem sqL : SqE (v (tL t)) t := ⟨fun _ => rfl, fun _ => rfl, fun l => by show some (l.map t.enc).length = _; rw [List.length_map], fun _ _ => rfl⟩
theorem sqU : SqE (v (tU t)) t := ⟨fun _ => rfl, fun _ => rfl, fun l => by show some (l.map t.enc).length = _; rw [List.length_map], fun _ _ => rfl⟩
theorem sqW : SqE (ow t) t := ⟨fun _ => rfl, fun _ => rfl, fun l => by show some (l.map t.enc).length = _; rw [List.length_map], fun _ _ => rfl⟩
variable {e : List α → SV}
def lnI (l : List α) : Int := l.length
theorem o_len (S : SqE e t) (l : List α) (h : LH) : gLen [e l] h = .ok (v tI (lnI l)) h := by
  show orBad (lenS (e l)) _ = _
  rw [S.len]; rfl
def lenT (s : Str) : T Int := T.guard (s.length ≤ sizeLine) (T.pure (s.length : Int))
theorem o_lenS (s : Str) (h : LH) : SE (v tI) (gLen [v tS s] h) (lenT s h) := by
  show SE _ (orBad (if s.length ≤ sizeLine then some s.length else none) _) (if s.length ≤ sizeLine then _ else _)
  by_cases c : s.length ≤ sizeLine
  · rw [if_pos c, if_pos c]; exact rfl
  · rw [if_neg c, if_neg c]; trivial
theorem atI_map {α β : Type} (f : α → β) (l : List α) (i : Int) : atI (l.map f) i = (atI l i).map f := by
  unfold atI
  rw [List.length_map]
  cases ixN l.length i with
  | none => rfl
  | some j => show (l.map f)[j]? = _; rw [List.getElem?_map]; rfl
def ixT (l : List α) (i : Int) : T α := T.opt (atI l i)
theorem o_ix (S : SqE e t) (l : List α) (i : Int) (h : LH) : SE (v t) (gIxA (e l) (.val (.int i)) h) (ixT l i h) := by
  have e1 : gIxA (e l) (.val (.int i)) h = orBad (atI (l.map t.enc) i) fun d => .ok (.val d) h := by
    unfold gIxA gIx
    rw [S.nr, S.ns, S.seq]
    rfl
  rw [e1, atI_map]
  unfold ixT
  cases atI l i with
  | none => trivial
  | some a => exact rfl
def slT (l : List α) (lo hi : Option Int) : List α := (l.drop (HT.sIx l.length 0 lo)).take (HT.sIx l.length l.length hi - HT.sIx l.length 0 lo)
theorem cut_map (l : List α) (lo hi : Option Int) : cutD (l.map t.enc) lo hi = (slT l lo hi).map t.enc := by
  unfold cutD slT
  rw [List.length_map, List.map_take, List.map_drop]
theorem o_slU (l : List α) (lo hi : Option Int) (h : LH) : gSl (v (tU t) l) lo hi h = .ok (v (tU t) (slT l lo hi)) h := by
  show Out.ok (SV.val (.tuple (cutD (l.map t.enc) lo hi))) h = _
  rw [cut_map]; rfl
theorem o_slL (l : List α) (lo hi : Option Int) (h : LH) : gSl (v (tL t) l) lo hi h = .ok (v (tL t) (slT l lo hi)) h := by
  show Out.ok (SV.val (.list (cutD (l.map t.enc) lo hi))) h = _
  rw [cut_map]; rfl
theorem o_slW (l : List α) (lo hi : Option Int) (h : LH) : gSl (ow t l) lo hi h = .ok (v (tL t) (slT l lo hi)) h := by
  show Out.ok (SV.val (.list (cutD (l.map t.enc) lo hi))) h = _
  rw [cut_map]; rfl
def slS (s : Str) (lo hi : Option Int) : T Str := T.guard (s.length ≤ sizeLine) (T.pure (cutS s lo hi))
theorem o_slS (s : Str) (lo hi : Option Int) (h : LH) : SE (v tS) (gSl (v tS s) lo hi h) (slS s lo hi h) := by
  show SE _ (iff (s.length ≤ sizeLine) _) (if s.length ≤ sizeLine then _ else _)
  unfold U.iff
  by_cases c : s.length ≤ sizeLine
  · rw [if_pos c, if_pos c]; exact rfl
  · rw [if_neg c, if_neg c]; trivial
/-! ### comparisons -/
/-- a == b, of any types -/
def eqX (t : Ty α) (u : Ty β) (a : α) (b : β) : Bool := PyData.eqv (t.enc a) (u.enc b)
theorem okD_t (h : t.n < 100) (a : α) : okD (t.enc a) = true := by
  obtain ⟨h1, h2⟩ := t.pl h a
  unfold okD
  rw [h1, decide_eq_true (by omega)]; rfl
theorem cEq_t (h1 : t.n < 100) (h2 : u.n < 100) (a : α) (b : β) : cEq (t.enc a) (u.enc b) = true := by
  unfold cEq
  rw [(t.pl h1 a).1, okD_t h2 b]; rfl
theorem o_eq (h1 : t.n < 100) (h2 : u.n < 100) (a : α) (b : β) (h : LH) : gEq (v t a) (v u b) h = .ok (v tB (eqX t u a b)) h := iff_t (cEq_t h1 h2 a b) _
theorem o_ne (h1 : t.n < 100) (h2 : u.n < 100) (a : α) (b : β) (h : LH) : gNe (v t a) (v u b) h = .ok (v tB (!eqX t u a b)) h := iff_t (cEq_t h1 h2 a b) _
theorem o_eqi (i j : Int) (h : LH) : gEq (v tI i) (v tI j) h = .ok (v tB (decide (i = j))) h := gEq_int i j h
theorem o_nei (i j : Int) (h : LH) : gNe (v tI i) (v tI j) h = .ok (v tB (!decide (i = j))) h := gNe_int i j h
theorem o_eqs (i j : Str) (h : LH) : gEq (v tS i) (v tS j) h = .ok (v tB (decide (i = j))) h := gEq_str i j h
theorem o_nes (i j : Str) (h : LH) : gNe (v tS i) (v tS j) h = .ok (v tB (!decide (i = j))) h := gNe_str i j h
theorem o_lti (i j : Int) (h : LH) : gLt (v tI i) (v tI j) h = .ok (v tB (decide (i < j))) h := gLt_int i j h
theorem o_lei (i j : Int) (h : LH) : gLe (v tI i) (v tI j) h = .ok (v tB (decide (i ≤ j))) h := gLe_int i j h
theorem o_gti (i j : Int) (h : LH) : gGt (v tI i) (v tI j) h = .ok (v tB (decide (i > j))) h := by
  rw [show gGt (v tI i) (v tI j) h = iff (cLt (.int i) (.int j) = true) (.ok (.val (.bool (PySem.W.dataLt (.int j) (.int i)))) h) from rfl, iff_t (show cLt (.int i) (.int j) = true from rfl)]
  rw [PySem.W.dataLt_int]; rfl
theorem o_gei (i j : Int) (h : LH) : gGe (v tI i) (v tI j) h = .ok (v tB (decide (i ≥ j))) h := by
  rw [show gGe (v tI i) (v tI j) h = iff (cLt (.int i) (.int j) = true) (.ok (.val (.bool (!PySem.W.dataLt (.int i) (.int j)))) h) from rfl, iff_t (show cLt (.int i) (.int j) = true from rfl)]
  rw [PySem.W.dataLt_int]
  congr 3
  by_cases c : i < j
  · rw [decide_eq_true c, decide_eq_false (by omega)]; rfl
  · rw [decide_eq_false c, decide_eq_true (by omega)]; rfl
/-- a < b, a <= b .. of any types -/
def ltT (t : Ty α) (u : Ty β) (a : α) (b : β) : T Bool := T.guard (cLt (t.enc a) (u.enc b) = true) (T.pure (PySem.W.dataLt (t.enc a) (u.enc b)))
def leT (t : Ty α) (u : Ty β) (a : α) (b : β) : T Bool := T.guard (cLt (t.enc a) (u.enc b) = true) (T.pure (!PySem.W.dataLt (u.enc b) (t.enc a)))
def gtT (t : Ty α) (u : Ty β) (a : α) (b : β) : T Bool := T.guard (cLt (t.enc a) (u.enc b) = true) (T.pure (PySem.W.dataLt (u.enc b) (t.enc a)))
def geT (t : Ty α) (u : Ty β) (a : α) (b : β) : T Bool := T.guard (cLt (t.enc a) (u.enc b) = true) (T.pure (!PySem.W.dataLt (t.enc a) (u.enc b)))
theorem guard_se {e : α → SV} (c : Prop) [Decidable c] (a : α) (h : LH) : SE e (iff c (.ok (e a) h)) (T.guard c (T.pure a) h) := by
  unfold U.iff T.guard
  by_cases z : c
  · rw [if_pos z, if_pos z]; exact rfl
  · rw [if_neg z, if_neg z]; trivial
theorem o_lt (a : α) (b : β) (h : LH) : SE (v tB) (gLt (v t a) (v u b) h) (ltT t u a b h) := guard_se (e := v tB) _ _ h
theorem o_le (a : α) (b : β) (h : LH) : SE (v tB) (gLe (v t a) (v u b) h) (leT t u a b h) := guard_se (e := v tB) _ _ h
theorem o_gt (a : α) (b : β) (h : LH) : SE (v tB) (gGt (v t a) (v u b) h) (gtT t u a b h) := guard_se (e := v tB) _ _ h
theorem o_ge (a : α) (b : β) (h : LH) : SE (v tB) (gGe (v t a) (v u b) h) (geT t u a b h) := guard_se (e := v tB) _ _ h
/-- a in l -/
def inX (t : Ty α) (u : Ty β) (a : β) (l : List α) : Bool := l.any fun z => PyData.eqv (t.enc z) (u.enc a)
theorem o_in (neg : Bool) (S : SqE e t) (h1 : t.n < 100) (h2 : u.n < 100) (a : β) (l : List α) (h : LH) : gIn neg (v u a) (e l) h = .ok (v tB (neg ^^ inX t u a l)) h := by
  unfold gIn
  rw [S.ns, both_n2, orNext_none, S.seq]
  show iff _ _ = _
  rw [iff_t ⟨(plAll t h1 l).1, okD_t h2 a⟩]
  unfold inX
  rw [List.any_map]
  rfl
theorem o_inS (neg : Bool) (a b : Str) (h : LH) : gIn neg (v tS a) (v tS b) h = .ok (v tB (neg ^^ inStr a b)) h := rfl
/-- x is None -/
def isND : D → Bool
  | .none => true
  | _ => false
theorem o_is (neg : Bool) (d : D) (h : LH) : gIs neg (.val d) (.val .none) h = .ok (v tB (neg ^^ isND d)) h := by
  rw [gIs_v]
  cases d <;> rfl
def isNE (t : Ty α) (a : α) : Bool := isND (t.enc a)
/-! ### arithmetic -/
theorem o_add (i j : Int) (h : LH) : gAdd (v tI i) (v tI j) h = .ok (v tI (i + j)) h := rfl
theorem o_sub (i j : Int) (h : LH) : gSub (v tI i) (v tI j) h = .ok (v tI (i - j)) h := rfl
theorem o_modP {i j : Int} (hj : 0 < j) (h : LH) : gMod (v tI i) (v tI j) h = .ok (v tI (i % j)) h := gMod_int hj h
theorem o_divP {i j : Int} (hj : (decide (0 < j) && decide (j < 1073741824)) = true) (h : LH) : gDiv (v tI i) (v tI j) h = .ok (v tI (i / j)) h := iff_t hj _
theorem o_mulR {i j : Int} (h0 : -(2 ^ 64) < j) (h1 : j < 2 ^ 64) (h : LH) : gMul (v tI i) (v tI j) h = .ok (v tI (i * j)) h := gMul_intR h0 h1 h
theorem o_mulL {i j : Int} (h0 : -(2 ^ 64) < i) (h1 : i < 2 ^ 64) (h : LH) : gMul (v tI i) (v tI j) h = .ok (v tI (i * j)) h := gMul_intL h0 h1 h
def modT (i j : Int) : T Int := T.guard (0 < j) (T.pure (i % j))
theorem o_mod (i j : Int) (h : LH) : SE (v tI) (gMod (v tI i) (v tI j) h) (modT i j h) := by
  unfold modT T.guard
  by_cases z : 0 < j
  · rw [if_pos z]; exact gMod_int z h
  · rw [if_neg z]; trivial
def mulT (i j : Int) : T Int := T.guard ((small i || small j) = true) (T.pure (i * j))
theorem o_mul (i j : Int) (h : LH) : SE (v tI) (gMul (v tI i) (v tI j) h) (mulT i j h) := guard_se (e := v tI) _ _ h
/-! ### concatenation -/
def catT (a b : List α) : T (List α) := T.guard (a.length + b.length ≤ sizeLine) (T.pure (a ++ b))
theorem guard_to {e : α → SV} {c : Prop} [Decidable c] {a : α} {o : Out SV} {h : LH} (q : c → o = .ok (e a) h) : SE e o (T.guard c (T.pure a) h) := by
  unfold T.guard
  by_cases z : c
  · rw [if_pos z]; exact q z
  · rw [if_neg z]; trivial
theorem o_catU (a b : List α) (h : LH) : SE (v (tU t)) (gAdd (v (tU t) a) (v (tU t) b) h) (catT a b h) := guard_to fun z => by
  show iff ((a.map t.enc).length + (b.map t.enc).length ≤ sizeLine) _ = _
  rw [iff_t (by rw [List.length_map, List.length_map]; exact z)]
  show Out.ok (SV.val (.tuple (a.map t.enc ++ b.map t.enc))) h = _
  rw [← List.map_append]; rfl
theorem o_catL (a b : List α) (h : LH) : SE (v (tL t)) (gAdd (v (tL t) a) (v (tL t) b) h) (catT a b h) := guard_to fun z => by
  show iff ((a.map t.enc).length + (b.map t.enc).length ≤ sizeLine) _ = _
  rw [iff_t (by rw [List.length_map, List.length_map]; exact z)]
  show Out.ok (SV.val (.list (a.map t.enc ++ b.map t.enc))) h = _
  rw [← List.map_append]; rfl
def catS (a b : Str) : T Str := T.guard (a.length + b.length ≤ sizeLine) (T.pure (a ++ b))
theorem o_catS (a b : Str) (h : LH) : SE (v tS) (gAdd (v tS a) (v tS b) h) (catS a b h) := guard_se (e := v tS) _ _ h
/-! ### built-ins -/
theorem o_tuple (S : SqE e t) (l : List α) (h : LH) : gTuple [e l] h = .ok (v (tU t) l) h := by
  show orBad (asSeq (e l)) _ = _
  rw [S.seq]; rfl
theorem o_list (S : SqE e t) (l : List α) (h : LH) : gList [e l] h = .ok (v (tL t) l) h := by
  show orBad (asSeq (e l)) _ = _
  rw [S.seq]; rfl
theorem o_all (l : List Bool) (h : LH) : gAll [v (tL tB) l] h = .ok (v tB (l.all id)) h := gAll_map l h
theorem o_any (l : List Bool) (h : LH) : gAny [v (tL tB) l] h = .ok (v tB (l.any id)) h := gAny_map l h
def intT (s : Str) : T Int := T.bind (T.opt (PySem.intText? s)) fun n => T.guard (s.length ≤ 640) (T.pure n)
theorem o_intS (s : Str) (h : LH) : SE (v tI) (gInt [v tS s] h) (intT s h) := by
  show SE _ (orBad (PySem.intText? s) _) ((T.opt (PySem.intText? s) h).bind _)
  cases PySem.intText? s with
  | none => trivial
  | some n => exact guard_se (e := v tI) _ _ h
def strT (i : Int) : T Str := T.guard (i.natAbs < 2 ^ 64) (T.pure (toString i : String))
theorem o_str (i : Int) (h : LH) : SE (v tS) (gStr [v tI i] h) (strT i h) := guard_se (e := v tS) _ _ h
def absT (i : Int) : Int := if i < 0 then -i else i
theorem o_abs (i : Int) (h : LH) : gAbs [v tI i] h = .ok (v tI (absT i)) h := rfl
def maxT (i j : Int) : Int := if j > i then j else i
def minT (i j : Int) : Int := if j < i then j else i
theorem o_max (i j : Int) (h : LH) : gMax [v tI i, v tI j] h = .ok (v tI (maxT i j)) h := rfl
theorem o_min (i j : Int) (h : LH) : gMin [v tI i, v tI j] h = .ok (v tI (minT i j)) h := rfl
def spls (a b : Str) : List Str := (TL.spl b.cps.toList 0 [] a.cps.toList).map fun l => ⟨l.toArray⟩
theorem spls_eq {a b : Str} (h1 : b.cps.toList ≠ []) (h2 : b.cps.toList.all (· < 256) = true) : Txt.split a b = spls a b := by
  have e : ∀ s : Str, s = SX.S s.cps.toList := fun s => rfl
  exact SX.split_S (a := a.cps.toList) (b := b.cps.toList) h1 h2
def splitT (a b : Str) : T (List Str) := T.guard (b.cps.toList ≠ [] ∧ b.cps.toList.all (· < 256) = true ∧ a.length + 2 ≤ sizeLine) (T.pure (spls a b))
theorem o_split (a b : Str) (h : LH) : SE (v (tL tS)) (gSplit a (v tS b) h) (splitT a b h) := guard_to fun z => by
  show iff ((b.length == 0) = false ∧ a.length + 2 ≤ sizeLine) _ = _
  have hb : (b.length == 0) = false := by
    show (b.cps.size == 0) = false
    rw [beq_eq_false_iff_ne]
    intro q
    exact z.1 (by rw [Array.toList_eq_nil_iff]; exact Array.eq_empty_of_size_eq_zero q)
  rw [iff_t ⟨hb, z.2.2⟩]
  show Out.ok (SV.val (PyData.list ((Txt.split a b).map PyData.str))) h = _
  rw [spls_eq z.1 z.2.1]
  rfl
theorem o_starts (a b : Str) (h : LH) : gStarts a (v tS b) h = .ok (v tB (Txt.startswith a b)) h := rfl
def joinT (a : Str) (l : List Str) : T Str := T.guard ((l.map (·.length)).sum + l.length * a.length ≤ 16777216) (T.pure (Txt.join a l))
theorem o_join {e : List Str → SV} (S : SqE e tS) (a : Str) (l : List Str) (h : LH) : SE (v tS) (gJoin a (e l) h) (joinT a l h) := by
  unfold gJoin
  rw [S.seq, orBad_some, show l.map tS.enc = l.map PyData.str from rfl, asStrs_map, orBad_some]
  exact guard_se (e := v tS) _ _ h
/-! ### what is walked -/
variable {ds : DS} {fa : DS → LH → Out SV} {fi : DS → LH → Out (List D)} {x : SV}
structure FxE (e : List α → SV) (t : Ty α) : Prop where
  fix : ∀ l, asFix (e l) = some (l.map t.enc)
theorem fxL : FxE (v (tL t)) t := ⟨fun _ => rfl⟩
theorem fxU : FxE (v (tU t)) t := ⟨fun _ => rfl⟩
abbrev it (t : Ty α) : List α → List D := fun l => l.map t.enc
theorem PJ.seq (F : FxE e t) {l : List α} (p : PJ ds fa (e l)) : PJ ds (iSeq fa) (it t l) := fun h => by
  show (fa ds h).bind _ = _
  rw [p h]
  show orBad (asFix (e l)) _ = _
  rw [F.fix]; rfl
theorem J.seq (F : FxE e t) {tl : T (List α)} (p : J ds fa e tl) : J ds (iSeq fa) (it t) tl := fun h => by
  have p := p h
  show SE _ ((fa ds h).bind _) _
  cases z : tl h with
  | ok l h1 =>
    rw [z] at p
    have p : fa ds h = .ok (e l) h1 := p
    rw [p]
    show orBad (asFix (e l)) _ = _
    rw [F.fix]; rfl
  | exc y h1 => rw [z] at p; have p : fa ds h = .exc y h1 := p; rw [p]; exact rfl
  | bad => trivial
def signsT (s : Str) : List Str := s.cps.toList.map fun c => ⟨#[c]⟩
theorem PJ.strI {s : Str} (p : PJ ds fa (v tS s)) : PJ ds (iStr' fa) (it tS (signsT s)) := fun h => by
  show (fa ds h).bind _ = _
  rw [p h]
  show Out.ok (signs s) h = .ok ((signsT s).map tS.enc) h
  unfold signs signsT
  rw [List.map_map]; rfl
def rangeL (lo : Int) (n : Nat) : List Int := (List.range n).map fun i => lo + (i : Nat)
theorem rangeL_enc (lo : Int) (n : Nat) : rangeD lo n = it tI (rangeL lo n) := by
  unfold rangeD rangeL it
  rw [List.map_map]; rfl
def okRb : Int → Bool
  | .ofNat k => Nat.ble k 4611686018427387903
  | .negSucc k => Nat.ble k 4611686018427387903
theorem okRb_eq (n : Int) : (okRb n = true) = okR n := by
  unfold okR
  cases n with
  | ofNat k =>
    show (Nat.ble k 4611686018427387903 = true) = _
    rw [Nat.ble_eq, show Int.ofNat k = (k : Int) from rfl]
    exact propext ⟨fun p => ⟨by omega, by omega⟩, fun ⟨p, q⟩ => by omega⟩
  | negSucc k =>
    show (Nat.ble k 4611686018427387903 = true) = _
    rw [Nat.ble_eq]
    exact propext ⟨fun p => ⟨by omega, by omega⟩, fun ⟨p, q⟩ => by omega⟩
def rngT (n : Int) : T (List Int) := T.guard (okRb n = true) (T.pure (rangeL 0 n.toNat))
def rng2T (m n : Int) : T (List Int) := T.guard ((okRb m && okRb n) = true) (T.pure (rangeL m (n - m).toNat))
theorem iff_l2 {c c' : Prop} [i1 : Decidable c] [i2 : Decidable c'] (cc : c' → c) {e : α → γ} {a : α} {b : γ} {h : LH} (q : e a = b) : SE e (U.iff c (.ok b h)) (T.guard c' (T.pure a) h) := by
  unfold U.iff T.guard
  by_cases z : c'
  · rw [if_pos (cc z), if_pos z, ← q]; exact rfl
  · rw [if_neg z]; trivial
theorem iff_l {c : Prop} [i1 : Decidable c] {i2 : Decidable c} {e : α → γ} {a : α} {b : γ} {h : LH} (q : e a = b) : SE e (@U.iff γ c i1 (.ok b h)) (@T.guard α c i2 (T.pure a) h) := @iff_l2 _ _ c c i1 i2 (fun z => z) e a b h q
theorem J.rng {n : Int} (p : PJ ds fa (v tI n)) : J ds (iRange1 (aCons fa aNil)) (it tI) (rngT n) := fun h => by
  show SE _ (((aCons fa aNil ds h)).bind _) _
  rw [aCons_ok (p h) (rfl : aNil ds h = .ok [] h)]
  exact iff_l2 (fun z => (okRb_eq n).mp z) (rangeL_enc 0 n.toNat).symm
theorem J.rngM {tn : T Int} (p : J ds fa (v tI) tn) : J ds (iRange1 (aCons fa aNil)) (it tI) (T.bind tn rngT) := fun h => by
  have p := p h
  show SE _ (((fa ds h).bind _).bind _) ((tn h).bind _)
  cases z : tn h with
  | ok n h1 =>
    rw [z] at p
    have p : fa ds h = .ok (v tI n) h1 := p
    rw [p]
    exact iff_l2 (fun z => (okRb_eq n).mp z) (rangeL_enc 0 n.toNat).symm
  | exc y h1 => rw [z] at p; have p : fa ds h = .exc y h1 := p; rw [p]; exact rfl
  | bad => trivial
theorem J.rng2 {m n : Int} {fb : DS → LH → Out SV} (p : PJ ds fa (v tI m)) (q : PJ ds fb (v tI n)) : J ds (iRange2 (aCons fa (aCons fb aNil))) (it tI) (rng2T m n) := fun h => by
  show SE _ (((aCons fa (aCons fb aNil) ds h)).bind _) _
  rw [aCons_ok (p h) (aCons_ok (q h) (rfl : aNil ds h = .ok [] h))]
  exact iff_l2 (fun z => by rw [Bool.and_eq_true] at z; exact ⟨(okRb_eq m).mp z.1, (okRb_eq n).mp z.2⟩) (rangeL_enc m (n - m).toNat).symm
/-! ### comprehensions -/
def compC (c : α → T Bool) (f : α → T β) : List α → T (List β)
  | [] => T.pure []
  | x :: r => T.bind (T.calm (c x)) fun b => if b then T.bind (T.calm (f x)) fun y => T.bind (compC c f r) fun l => T.pure (y :: l) else compC c f r
def compT (l : List α) (c : α → T Bool) (f : α → T β) : T (List β) := T.guard (l.length ≤ sizeLine) (compC c f l)
def compP (l : List α) (c : α → Bool) (f : α → β) : T (List β) := T.guard (l.length ≤ sizeLine) (T.pure ((l.filter c).map f))
def compM (l : List α) (f : α → β) : T (List β) := T.guard (l.length ≤ sizeLine) (T.pure (l.map f))
theorem SE.calm {γ δ : Type} {e : γ → δ} {o : Out δ} {r : Out γ} (p : SE e o r) : SE e o.calm r.calm := by
  cases r with
  | ok a h => have p : o = .ok (e a) h := p; rw [p]; exact rfl
  | exc x h => trivial
  | bad => trivial
theorem calm_se {γ δ : Type} {e : γ → δ} {o : Out δ} {k : LH → Out γ} : True := trivial
theorem compC_se {tg : D → DS → Option DS} {tt : DS → LH → Out Bool} {fe : DS → LH → Out SV} {c : α → T Bool} {f : α → T β} (H : ∀ a, ∃ ds1, tg (t.enc a) ds = some ds1 ∧ J ds1 tt idB (c a) ∧ J ds1 fe (v u) (f a)) :
    ∀ (l : List α) (h : LH), SE (it u) (compL tg tt fe ds (l.map t.enc) h) (compC c f l h)
  | [], h => rfl
  | a :: l, h => by
    obtain ⟨ds1, e1, h1, h2⟩ := H a
    rw [List.map_cons]
    unfold compL compC
    rw [e1, orBad_some]
    refine SE.bind (h1 h).calm fun b h3 => ?_
    cases b with
    | false => exact compC_se H l h3
    | true =>
      show SE (it u) ((fe ds1 h3).calm.bind _) (((f a h3).calm).bind _)
      refine SE.bind (h2 h3).calm fun y h4 => ?_
      show SE (it u) ((compL tg tt fe ds (l.map t.enc) h4).bind _) ((compC c f l h4).bind _)
      exact SE.bind (compC_se H l h4) fun z h5 => rfl
theorem guard_bind {γ δ : Type} {e : γ → δ} {c c' : Prop} [Decidable c] [Decidable c'] (cc : c' → c) {o : Out δ} {r : T γ} {h : LH} (p : SE e o (r h)) : SE e (iff c o) (T.guard c' r h) := by
  unfold U.iff T.guard
  by_cases z : c'
  · rw [if_pos (cc z), if_pos z]; exact p
  · rw [if_neg z]; trivial
theorem J.comp {tg : D → DS → Option DS} {tt : DS → LH → Out Bool} {fe : DS → LH → Out SV} {vs : List Nat} {c : α → T Bool} {f : α → T β} {ti : T (List α)} (pi : J ds fi (it t) ti)
    (H : ∀ a, ∃ ds1, tg (t.enc a) (dwipe ds vs) = some ds1 ∧ J ds1 tt idB (c a) ∧ J ds1 fe (v u) (f a)) : J ds (fLc fi tg tt fe vs) (it u) (T.bind ti fun l => compT l c f) := fun h =>
  (pi h).bind fun l h1 => guard_bind (fun z => by rw [List.length_map]; exact z) (compC_se H l h1)
theorem J.compI {tg : D → DS → Option DS} {tt : DS → LH → Out Bool} {fe : DS → LH → Out SV} {vs : List Nat} {c : α → T Bool} {f : α → T β} {l : List α} (pi : PJ ds fi (it t l))
    (H : ∀ a, ∃ ds1, tg (t.enc a) (dwipe ds vs) = some ds1 ∧ J ds1 tt idB (c a) ∧ J ds1 fe (v u) (f a)) : J ds (fLc fi tg tt fe vs) (it u) (compT l c f) := fun h => by
  show SE _ ((fi ds h).bind _) _
  rw [pi h]
  exact guard_bind (fun z => by rw [List.length_map]; exact z) (compC_se H l h)
theorem compC_pure (c : α → Bool) (f : α → β) : ∀ l : List α, compC (fun a => T.pure (c a)) (fun a => T.pure (f a)) l = T.pure ((l.filter c).map f)
  | [] => rfl
  | a :: l => by
    unfold compC
    rw [T.calm_pure, T.pure_bind, compC_pure c f l]
    cases e : c a with
    | true => rw [List.filter_cons_of_pos e]; rfl
    | false => rw [List.filter_cons_of_neg (by rw [e]; exact Bool.false_ne_true)]; rfl
theorem compT_pure (l : List α) (c : α → Bool) (f : α → β) : compT l (fun a => T.pure (c a)) (fun a => T.pure (f a)) = compP l c f := by
  unfold compT compP
  rw [compC_pure]
theorem compP_true (l : List α) (f : α → β) : compP l (fun _ => true) f = compM l f := by
  unfold compP compM
  rw [List.filter_eq_self.mpr (fun _ _ => rfl)]
theorem J.compP {tg : D → DS → Option DS} {tt : DS → LH → Out Bool} {fe : DS → LH → Out SV} {vs : List Nat} {c : α → Bool} {f : α → β} {l : List α} (pi : PJ ds fi (it t l))
    (H : ∀ a, ∃ ds1, tg (t.enc a) (dwipe ds vs) = some ds1 ∧ PJ ds1 tt (c a) ∧ PJ ds1 fe (v u (f a))) : J ds (fLc fi tg tt fe vs) (it u) (U.compP l c f) := by
  rw [← compT_pure]
  exact J.compI pi fun a => let ⟨d, e, h1, h2⟩ := H a; ⟨d, e, h1.j (e := idB), h2.j⟩
theorem J.compM {tg : D → DS → Option DS} {fe : DS → LH → Out SV} {vs : List Nat} {f : α → β} {l : List α} (pi : PJ ds fi (it t l))
    (H : ∀ a, ∃ ds1, tg (t.enc a) (dwipe ds vs) = some ds1 ∧ PJ ds1 fe (v u (f a))) : J ds (fLc fi tg tYes' fe vs) (it u) (U.compM l f) := by
  rw [← compP_true]
  exact J.compP pi fun a => let ⟨d, e, h2⟩ := H a; ⟨d, e, fun _ => rfl, h2⟩
theorem pj_yes : PJ ds tYes' true := fun _ => rfl
theorem J.fz {f : DS → LH → Out (List D)} {tl : T (List α)} (p : J ds f (it t) tl) : J ds (eFz f) (v (tL t)) tl := fun h => by
  have p := p h
  show SE _ ((f ds h).bind _) _
  cases z : tl h with
  | ok l h1 => rw [z] at p; have p : f ds h = .ok (it t l) h1 := p; rw [p]; exact rfl
  | exc y h1 => rw [z] at p; have p : f ds h = .exc y h1 := p; rw [p]; exact rfl
  | bad => trivial
/-- an option that is there -/
theorem J.unopt {a : Option α} (p : PJ ds fa (v (tO t) a)) : J ds fa (v t) (T.opt a) := fun h => by
  cases a with
  | none => trivial
  | some a => exact p h
theorem J.unoptM {ta : T (Option α)} (p : J ds fa (v (tO t)) ta) : J ds fa (v t) (T.bind ta T.opt) := fun h => by
  have p := p h
  cases z : ta h with
  | ok a h1 =>
    rw [z] at p
    show SE _ _ ((ta h).bind _)
    rw [z]
    cases a with
    | none => trivial
    | some a => exact p
  | exc y h1 => rw [z] at p; show SE _ _ ((ta h).bind _); rw [z]; exact p
  | bad => show SE _ _ ((ta h).bind _); rw [z]; trivial
end
end U
/-! Y3: statements in types. -/
namespace U
open PySem PySem.Spec PyProof.Rows L2
inductive Jn (σ γ : Type) where
  | nx (s : σ) | out (c : γ)
inductive Lp (σ γ : Type) where
  | nx (s : σ) | bk (s : σ) | out (c : γ)
def Jn.go {σ γ : Type} (k : σ → T γ) : Jn σ γ → T γ
  | .nx s => k s
  | .out c => T.pure c
@[simp] theorem Jn.go_nx {σ γ : Type} (k : σ → T γ) (s : σ) : Jn.go k (.nx s) = k s := rfl
@[simp] theorem Jn.go_out {σ γ : Type} (k : σ → T γ) (c : γ) : Jn.go k (.out c) = T.pure c := rfl
def forT0 {α σ : Type} (body : α → σ → T σ) : List α → σ → T σ
  | [], s => T.pure s
  | a :: l, s => T.bind (body a s) fun s => forT0 body l s
def forT {α σ γ : Type} (body : α → σ → T (Lp σ γ)) : List α → σ → T (Jn σ γ)
  | [], s => T.pure (.nx s)
  | a :: l, s => T.bind (body a s) fun r => match r with
    | .nx s => forT body l s
    | .bk s => T.pure (.nx s)
    | .out c => T.pure (.out c)
def whileT0 {σ : Type} (c : σ → T Bool) (body : σ → T σ) : Nat → σ → T σ
  | 0, _ => T.bad
  | n + 1, s => T.bind (c s) fun b => if b then T.bind (body s) fun s => whileT0 c body n s else T.pure s
def whileT {σ γ : Type} (c : σ → T Bool) (body : σ → T (Lp σ γ)) : Nat → σ → T (Jn σ γ)
  | 0, _ => T.bad
  | n + 1, s => T.bind (c s) fun b => if b then T.bind (body s) fun r => match r with
    | .nx s => whileT c body n s
    | .bk s => T.pure (.nx s)
    | .out c => T.pure (.out c)
    else T.pure (.nx s)
def onN {α γ : Type} (a : Option α) (x : T γ) (y : α → T γ) : T γ := match a with
  | none => x
  | some b => y b
@[simp] theorem onN_none {α γ : Type} (x : T γ) (y : α → T γ) : onN none x y = x := rfl
@[simp] theorem onN_some {α γ : Type} (a : α) (x : T γ) (y : α → T γ) : onN (some a) x y = y a := rfl
abbrev Ph (γ : Type) := γ → LH → SO → Prop
def SX {γ : Type} (Φ : Ph γ) (o : SO) (r : Out γ) : Prop := match r with
  | .ok c h' => Φ c h' o
  | .exc x h' => ∃ ds', o = .exc x ds' h'
  | .bad => True
def SJ {γ : Type} (Φ : Ph γ) (ds : DS) (f : SF) (t : T γ) : Prop := ∀ h, SX Φ (f ds h) (t h)
/-- a def's body -/
def Φr {ρ : Type} (e : ρ → SV) : Ph ρ := fun c h o => fin o = .ok (e c) h
def jmp : SO → Bool
  | .rt _ _ => true
  | .bk _ _ => true
  | .ct _ _ => true
  | _ => false
/-- a part of a suite -/
def ΦJ {σ γ : Type} (E : σ → DS → Prop) (Φ : Ph γ) : Ph (Jn σ γ) := fun c h o => match c with
  | .nx s => ∃ ds', E s ds' ∧ o = .nx ds' h
  | .out c => Φ c h o ∧ jmp o = true
def ΦJ0 {σ : Type} (E : σ → DS → Prop) : Ph σ := fun s h o => ∃ ds', E s ds' ∧ o = .nx ds' h
/-- a loop's body -/
def ΦB {σ γ : Type} (E : σ → DS → Prop) (Φ : Ph γ) : Ph (Lp σ γ) := fun c h o => match c with
  | .nx s => ∃ ds', E s ds' ∧ (o = .nx ds' h ∨ o = .ct ds' h)
  | .bk s => ∃ ds', E s ds' ∧ o = .bk ds' h
  | .out c => ∃ s, o = .rt s h ∧ Φ c h (.rt s h)
def ΦB0 {σ : Type} (E : σ → DS → Prop) : Ph σ := fun s h o => ∃ ds', E s ds' ∧ (o = .nx ds' h ∨ o = .ct ds' h)
/-- what is no exception -/
def okJ : Option SV → Prop
  | some (.exc _) => False
  | _ => True
section
variable {α β σ γ ρ : Type} {Φ : Ph γ} {ds : DS} {f f' g : SF} {t ta tb : T γ} {fe : DS → LH → Out SV} {i : Nat}
theorem SJ.one (q : SJ Φ ds (sSeq f sNil) t) : SJ Φ ds f t := by
  have e : sSeq f sNil = f := funext fun ds => funext fun h => by
    unfold sSeq
    cases f ds h <;> rfl
  rwa [e] at q
theorem SJ.one1 (q : SJ Φ ds f t) : SJ Φ ds (sSeq f sNil) t := by
  have e : sSeq f sNil = f := funext fun ds => funext fun h => by
    unfold sSeq
    cases f ds h <;> rfl
  rwa [e]
theorem SJ.nrm {ds' : DS} (e : ds = ds') (q : SJ Φ ds' g t) : SJ Φ ds g t := by subst e; exact q
theorem SJ.asc {a b : SF} (q : SJ Φ ds (sSeq a (sSeq b g)) t) : SJ Φ ds (sSeq (sSeq a b) g) t := by
  have e : sSeq (sSeq a b) g = sSeq a (sSeq b g) := funext fun ds => funext fun h => by
    unfold sSeq
    cases a ds h <;> rfl
  rwa [e]
theorem SJ.nil (q : SJ Φ ds g t) : SJ Φ ds (sSeq sNil g) t := q
theorem SJ.end_ {c : γ} (q : ∀ h, Φ c h (.nx ds h)) : SJ Φ ds sNil (T.pure c) := fun h => q h
/-- t first; then what k says -/
theorem SJ.of {δ ε : Type} {e : α → ε} {fa : DS → LH → Out ε} {ta : T α} {k : α → T γ} {m : ε → LH → SO} (p : J ds fa e ta) (eq : ∀ h, f ds h = (fa ds h).so ds m) (q : ∀ a h, SX Φ (m (e a) h) (k a h)) : SJ Φ ds f (T.bind ta k) := fun h => by
  have p := p h
  rw [eq]
  show SX Φ _ ((ta h).bind _)
  cases z : ta h with
  | ok a h1 =>
    rw [z] at p
    have p : fa ds h = .ok (e a) h1 := p
    rw [p]
    exact q a h1
  | exc x h1 =>
    rw [z] at p
    have p : fa ds h = .exc x h1 := p
    rw [p]
    exact ⟨ds, rfl⟩
  | bad => trivial
theorem seq_so {ε : Type} {o : Out ε} {m : ε → LH → SO} {h : LH} (e : f ds h = o.so ds m) : sSeq f g ds h = o.so ds fun a h1 => match m a h1 with | .nx ds' h' => g ds' h' | o => o := by
  unfold sSeq
  rw [e]
  cases o <;> rfl
theorem SJ.set {e : α → SV} {ta : T α} {k : α → T γ} (p : J ds fe e ta) (hs : ∀ a, storeB (e a) = true) (q : ∀ a, SJ Φ (ds.set i (some (e a))) g (k a)) : SJ Φ ds (sSeq (sSet i fe) g) (T.bind ta k) :=
  SJ.of (δ := Unit) p (fun h => seq_so rfl) fun a h => by
    rw [show iffS (storeB (e a) = true) (.nx (ds.set i (some (e a))) h) = .nx (ds.set i (some (e a))) h from if_pos (hs a)]
    exact q a h
theorem SJ.setP {s : SV} (p : PJ ds fe s) (hs : storeB s = true) (q : SJ Φ (ds.set i (some s)) g t) : SJ Φ ds (sSeq (sSet i fe) g) t :=
  SJ.set (k := fun _ : Unit => t) (e := fun _ => s) (ta := T.pure ()) (PJ.j (e := fun _ => s) p) (fun _ => hs) fun _ => q
theorem SJ.own {u : Ty β} {fl : DS → LH → Out (List D)} {tl : T (List β)} {k : List β → T γ} (p : J ds fl (it u) tl) (q : ∀ l, SJ Φ (ds.set i (some (ow u l))) g (k l)) : SJ Φ ds (sSeq (sOwn i fl) g) (T.bind tl k) :=
  SJ.of (δ := Unit) p (fun h => seq_so rfl) fun a h => q a h
theorem SJ.fz {l : List D} (e : ds[i]? = some (some (.own l))) (q : SJ Φ (ds.set i (some (.val (.list l)))) (sSeq f g) t) : SJ Φ ds (sSeq (sFz i f) g) t := fun h => by
  have : sSeq (sFz i f) g ds h = sSeq f g (ds.set i (some (.val (.list l)))) h := by
    unfold sSeq sFz
    rw [e]
    rfl
  rw [this]
  exact q h
def pushT (l : List α) (a : α) : T (List α) := T.guard (l.length < sizeLine) (T.pure (l ++ [a]))
theorem SJ.guard {c : Prop} [Decidable c] (q : c → SJ Φ ds f t) : SJ Φ ds f (T.guard c t) := fun h => by
  unfold T.guard
  by_cases z : c
  · rw [if_pos z]; exact q z h
  · rw [if_neg z]; trivial
theorem bind_guard {c : Prop} [Decidable c] (a : α) (k : α → T γ) : T.bind (T.guard c (T.pure a)) k = T.guard c (k a) := funext fun h => by
  show (if c then T.pure a h else .bad : Out α).bind _ = if c then k a h else .bad
  by_cases z : c
  · rw [if_pos z, if_pos z]; rfl
  · rw [if_neg z, if_neg z]; rfl
theorem SJ.app {u : Ty β} {l : List β} {ta : T β} {k : List β → T γ} (e : ds[i]? = some (some (ow u l))) (p : J ds fe (v u) ta) (q : ∀ m, SJ Φ (ds.set i (some (ow u m))) g (k m)) : SJ Φ ds (sSeq (sApp i fe) g) (T.bind ta fun a => T.bind (pushT l a) k) :=
  SJ.of (δ := Unit) (m := fun s h1 => sSeq (fun ds h => orBadS (asVal s) fun d => iffS ((l.map u.enc).length < sizeLine) (.nx (ds.set i (some (.own (l.map u.enc ++ [d])))) h)) g ds h1) p (fun h => by
    have eo : ownAt ds i = some (l.map u.enc) := by unfold ownAt; rw [e]
    unfold sSeq sApp
    rw [eo, orBadS_some]
    cases fe ds h <;> rfl) fun a h => by
    unfold pushT
    rw [bind_guard]
    refine SJ.guard (f := sSeq (fun ds h => orBadS (asVal (v u a)) fun d => iffS ((l.map u.enc).length < sizeLine) (.nx (ds.set i (some (.own (l.map u.enc ++ [d])))) h)) g) (fun z h => ?_) h
    have e2 : sSeq (fun ds h => orBadS (asVal (v u a)) fun d => iffS ((l.map u.enc).length < sizeLine) (.nx (ds.set i (some (.own (l.map u.enc ++ [d])))) h)) g ds h = g (ds.set i (some (ow u (l ++ [a])))) h := by
      show (match iffS ((l.map u.enc).length < sizeLine) (.nx (ds.set i (some (.own (l.map u.enc ++ [u.enc a])))) h) with | .nx ds' h' => g ds' h' | o => o) = _
      rw [iffS_pos (by rw [List.length_map]; exact z), show ow u (l ++ [a]) = .own (l.map u.enc ++ [u.enc a]) by unfold ow; rw [List.map_append]; rfl]
    rw [e2]
    exact q _ h
theorem SJ.ext {u : Ty β} {l : List β} {e2 : List β → SV} {ta : T (List β)} {k : List β → T γ} (e : ds[i]? = some (some (ow u l))) (hl : ∀ m, asLst (e2 m) = some (m.map u.enc)) (p : J ds fe e2 ta) (q : ∀ m, SJ Φ (ds.set i (some (ow u m))) g (k m)) : SJ Φ ds (sSeq (sExt i fe) g) (T.bind ta fun m => T.bind (catT l m) k) :=
  SJ.of (δ := Unit) (m := fun s h1 => sSeq (fun ds h => orBadS (asLst s) fun l2 => iffS ((l.map u.enc).length + l2.length ≤ sizeLine) (.nx (ds.set i (some (.own (l.map u.enc ++ l2)))) h)) g ds h1) p (fun h => by
    have eo : ownAt ds i = some (l.map u.enc) := by unfold ownAt; rw [e]
    unfold sSeq sExt
    rw [eo, orBadS_some]
    cases fe ds h <;> rfl) fun a h => by
    unfold catT
    rw [bind_guard]
    refine SJ.guard (f := sSeq (fun ds h => orBadS (asLst (e2 a)) fun l2 => iffS ((l.map u.enc).length + l2.length ≤ sizeLine) (.nx (ds.set i (some (.own (l.map u.enc ++ l2)))) h)) g) (fun z h => ?_) h
    have e3 : sSeq (fun ds h => orBadS (asLst (e2 a)) fun l2 => iffS ((l.map u.enc).length + l2.length ≤ sizeLine) (.nx (ds.set i (some (.own (l.map u.enc ++ l2)))) h)) g ds h = g (ds.set i (some (ow u (l ++ a)))) h := by
      show (match (orBadS (asLst (e2 a)) _) with | .nx ds' h' => g ds' h' | o => o) = _
      rw [hl a, orBadS_some]
      rw [iffS_pos (by rw [List.length_map, List.length_map]; exact z), show ow u (l ++ a) = .own (l.map u.enc ++ a.map u.enc) by unfold ow; rw [List.map_append]]
    rw [e3]
    exact q _ h
theorem SJ.aug {n : Int} {ta : T Int} {k : Int → T γ} (e : slot ds i = some (v tI n)) (p : J ds fe (v tI) ta) (q : ∀ j, SJ Φ (ds.set i (some (v tI j))) g (k j)) : SJ Φ ds (sSeq (sAug i fe) g) (T.bind ta fun j => k (n + j)) :=
  SJ.of (δ := Unit) (m := fun s h1 => sSeq (fun ds h => orBadS (asInt s) fun j => .nx (ds.set i (some (.val (.int (n + j))))) h) g ds h1) p (fun h => by
    unfold sSeq sAug
    rw [e]
    show (match orBadS (some n) _ with | .nx ds h => g ds h | o => o) = _
    rw [orBadS_some]
    cases fe ds h <;> rfl) fun a h => q _ h
theorem SJ.tg {e : α → SV} {ta : T α} {k : α → T γ} {ftg : D → DS → Option DS} (p : J ds fe e ta) (q : ∀ a, ∃ d ds', asVal (e a) = some d ∧ ftg d ds = some ds' ∧ SJ Φ ds' g (k a)) : SJ Φ ds (sSeq (sTg ftg fe) g) (T.bind ta k) :=
  SJ.of (δ := Unit) p (fun h => seq_so rfl) fun a h => by
    obtain ⟨d, ds', e1, e2, q⟩ := q a
    rw [e1, orBadS_some, e2, orBadS_some]
    exact q h
theorem SJ.par {j : Nat} {x y : SV} {fs : DS → LH → Out (List SV)} (p : PA ds fs [x, y]) (hx : storeB x = true) (hy : storeB y = true) (q : SJ Φ ((ds.set i (some x)).set j (some y)) g t) : SJ Φ ds (sSeq (sPar i j fs) g) t := fun h => by
  rw [par_ok (p h) hx hy rfl]
  exact q h
theorem SJ.parM {j : Nat} {fa fb : DS → LH → Out SV} {e1 : α → SV} {e2 : β → SV} {ta : T α} {tb : T β} {k : α → β → T γ} (pa : J ds fa e1 ta) (pb : J ds fb e2 tb) (h1 : ∀ a, storeB (e1 a) = true) (h2 : ∀ a, storeB (e2 a) = true)
    (q : ∀ a b, SJ Φ ((ds.set i (some (e1 a))).set j (some (e2 b))) g (k a b)) : SJ Φ ds (sSeq (sPar i j (aCons fa (aCons fb aNil))) g) (T.bind ta fun a => T.bind tb fun b => k a b) := by
  have p : J ds (aCons fa (aCons fb aNil)) (fun p : α × β => [e1 p.1, e2 p.2]) (T.bind ta fun a => T.bind tb fun b => T.pure (a, b)) := fun h => (pa h).bind fun a h1 => by
    show SE _ ((aCons fb aNil ds h1).bind _) _
    show SE _ (((fb ds h1).bind _).bind _) ((tb h1).bind _)
    have pb := pb h1
    cases z : tb h1 with
    | ok b h2 => rw [z] at pb; have pb : fb ds h1 = .ok (e2 b) h2 := pb; rw [pb]; exact rfl
    | exc x h2 => rw [z] at pb; have pb : fb ds h1 = .exc x h2 := pb; rw [pb]; exact rfl
    | bad => trivial
  have := SJ.of (δ := Unit) (f := sSeq (sPar i j (aCons fa (aCons fb aNil))) g) (k := fun q : α × β => k q.1 q.2) (Φ := Φ) p (fun h => seq_so rfl) fun a h => by
    show SX Φ (match orBadS (arg2 [e1 a.1, e2 a.2]) _ with | .nx ds' h' => g ds' h' | o => o) _
    rw [show arg2 [e1 a.1, e2 a.2] = some (e1 a.1, e2 a.2) from rfl, orBadS_some, iffS_pos (by rw [h1, h2]; rfl)]
    exact q a.1 a.2 h
  simp only [T.bind_assoc, T.pure_bind] at this
  exact this
theorem SJ.expr {e : α → SV} {ta : T α} {k : α → T γ} (p : J ds fe e ta) (q : ∀ a, SJ Φ ds g (k a)) : SJ Φ ds (sSeq (sExpr fe) g) (T.bind ta k) :=
  SJ.of (δ := Unit) p (fun h => seq_so rfl) fun a h => q a h
theorem SJ.ret {e : ρ → SV} {tr : T ρ} {inj : ρ → γ} (p : J ds fe e tr) (hp : ∀ a, plainS (e a) = true) (c : ∀ a h, Φ (inj a) h (.rt (e a) h)) : SJ Φ ds (sSeq (sRet fe) g) (T.bind tr fun a => T.pure (inj a)) :=
  SJ.of (δ := Unit) p (fun h => seq_so rfl) fun a h => by
    show Φ (inj a) h (match iffS (plainS (e a) = true) (.rt (e a) h) with | .nx ds' h' => g ds' h' | o => o)
    rw [iffS_pos (hp a)]
    exact c a h
theorem SJ.retP {s : SV} {c : γ} (p : PJ ds fe s) (hp : plainS s = true) (q : ∀ h, Φ c h (.rt s h)) : SJ Φ ds (sSeq (sRet fe) g) (T.pure c) :=
  SJ.ret (e := fun _ : Unit => s) (tr := T.pure ()) (inj := fun _ => c) (PJ.j (e := fun _ : Unit => s) p) (fun _ => hp) fun _ h => q h
/-- at a def's end -/
theorem SJ.retF {e : ρ → SV} {tr : T ρ} (p : J ds fe e tr) (hp : ∀ a, plainS (e a) = true) : SJ (Φr e) ds (sSeq (sRet fe) g) tr := by
  have := SJ.ret (Φ := Φr e) (inj := fun a => a) (g := g) p hp fun a h => rfl
  rwa [show (T.bind tr fun a => T.pure a) = tr from T.bind_pure tr] at this
theorem SJ.retN {c : γ} (q : ∀ h, Φ c h (.rt (.val .none) h)) : SJ Φ ds (sSeq sRetN g) (T.pure c) := fun h => q h
theorem SJ.retO {l : List D} {c : γ} (e : ds[i]? = some (some (.own l))) (q : ∀ h, Φ c h (.rt (.own l) h)) : SJ Φ ds (sSeq (sRetO i) g) (T.pure c) := fun h => by
  have : sSeq (sRetO i) g ds h = .rt (.own l) h := by
    unfold sSeq sRetO
    rw [e]
    rfl
  rw [this]
  exact q h
theorem SJ.brk {c : γ} (q : ∀ h, Φ c h (.bk ds h)) : SJ Φ ds (sSeq (fun ds h => .bk ds h) g) (T.pure c) := fun h => q h
theorem SJ.cont {c : γ} (q : ∀ h, Φ c h (.ct ds h)) : SJ Φ ds (sSeq (fun ds h => .ct ds h) g) (T.pure c) := fun h => q h
theorem SJ.raise {n : Str} : SJ Φ ds (sSeq (sRaise n) g) (T.raise ⟨n, []⟩) := fun h => ⟨ds, rfl⟩
theorem SJ.ifP {ft : DS → LH → Out Bool} {c : Bool} (p : PJ ds ft c) (a : SJ Φ ds (sSeq f g) ta) (b : SJ Φ ds (sSeq f' g) tb) : SJ Φ ds (sSeq (sIf ft f f') g) (if c then ta else tb) := fun h => by
  have e : sSeq (sIf ft f f') g ds h = sSeq (if c then f else f') g ds h := by
    unfold sSeq sIf
    rw [p h]
    cases c <;> rfl
  rw [e]
  cases c with
  | true => exact a h
  | false => exact b h
theorem SJ.ifM {ft : DS → LH → Out Bool} {tc : T Bool} (p : J ds ft idB tc) (a : SJ Φ ds (sSeq f g) ta) (b : SJ Φ ds (sSeq f' g) tb) : SJ Φ ds (sSeq (sIf ft f f') g) (T.bind tc fun c => if c then ta else tb) :=
  SJ.of (δ := Unit) (m := fun c h1 => sSeq (if c then f else f') g ds h1) p (fun h => by
    unfold sSeq sIf
    cases ft ds h with
    | ok c h1 => cases c <;> rfl
    | exc x h1 => rfl
    | bad => rfl) fun c h => by
    cases c with
    | true => exact a h
    | false => exact b h
theorem SJ.ifT {ft : DS → LH → Out Bool} (p : PJ ds ft true) (a : SJ Φ ds (sSeq f g) t) : SJ Φ ds (sSeq (sIf ft f f') g) t := fun h => by
  have e : sSeq (sIf ft f f') g ds h = sSeq f g ds h := by
    unfold sSeq sIf
    rw [p h]
    rfl
  rw [e]; exact a h
theorem SJ.ifF {ft : DS → LH → Out Bool} (p : PJ ds ft false) (a : SJ Φ ds (sSeq f' g) t) : SJ Φ ds (sSeq (sIf ft f f') g) t := fun h => by
  have e : sSeq (sIf ft f f') g ds h = sSeq f' g ds h := by
    unfold sSeq sIf
    rw [p h]
    rfl
  rw [e]; exact a h
/-- if x is None -/
theorem SJ.ifN {α : Type} {u : Ty α} {ft : DS → LH → Out Bool} {a : Option α} {ta : T γ} {tb : α → T γ} (p : PJ ds ft (isNE (tO u) a)) (hn : ∀ b, isND (u.enc b) = false) (A : a = none → SJ Φ ds (sSeq f g) ta) (B : ∀ b, a = some b → SJ Φ ds (sSeq f' g) (tb b)) :
    SJ Φ ds (sSeq (sIf ft f f') g) (onN a ta tb) := by
  cases a with
  | none => exact SJ.ifT p (A rfl)
  | some b => exact SJ.ifF (by rw [show isNE (tO u) (some b) = isND (u.enc b) from rfl, hn b] at p; exact p) (B b rfl)
/-- if x is not None -/
theorem SJ.ifS {α : Type} {u : Ty α} {ft : DS → LH → Out Bool} {a : Option α} {ta : T γ} {tb : α → T γ} (p : PJ ds ft (!isNE (tO u) a)) (hn : ∀ b, isND (u.enc b) = false) (A : a = none → SJ Φ ds (sSeq f' g) ta) (B : ∀ b, a = some b → SJ Φ ds (sSeq f g) (tb b)) :
    SJ Φ ds (sSeq (sIf ft f f') g) (onN a ta tb) := by
  cases a with
  | none => exact SJ.ifF p (A rfl)
  | some b => exact SJ.ifT (by rw [show isNE (tO u) (some b) = isND (u.enc b) from rfl, hn b] at p; exact p) (B b rfl)
/-- a part of a suite, then the rest -/
theorem SJ.join {E : σ → DS → Prop} {ts : T σ} {k : σ → T γ} (p : SJ (ΦJ0 E) ds f ts) (q : ∀ s ds', E s ds' → SJ Φ ds' g (k s)) : SJ Φ ds (sSeq f g) (T.bind ts k) := fun h => by
  have p := p h
  show SX Φ _ ((ts h).bind _)
  cases z : ts h with
  | ok s h1 =>
    rw [z] at p
    obtain ⟨ds', hE, e⟩ := p
    have e2 : sSeq f g ds h = g ds' h1 := by unfold sSeq; rw [e]
    rw [e2]
    exact q s ds' hE h1
  | exc x h1 =>
    rw [z] at p
    obtain ⟨ds', e⟩ := p
    exact ⟨ds', by unfold sSeq; rw [e]⟩
  | bad => trivial
theorem SJ.joinJ {E : σ → DS → Prop} {ts : T (Jn σ γ)} {k : σ → T γ} (p : SJ (ΦJ E Φ) ds f ts) (q : ∀ s ds', E s ds' → SJ Φ ds' g (k s)) : SJ Φ ds (sSeq f g) (T.bind ts (Jn.go k)) := fun h => by
  have p := p h
  show SX Φ _ ((ts h).bind _)
  cases z : ts h with
  | ok s h1 =>
    rw [z] at p
    cases s with
    | nx s =>
      obtain ⟨ds', hE, e⟩ := p
      have e2 : sSeq f g ds h = g ds' h1 := by unfold sSeq; rw [e]
      rw [e2]
      exact q s ds' hE h1
    | out c =>
      obtain ⟨hΦ, e⟩ := p
      have e2 : sSeq f g ds h = f ds h := by
        unfold sSeq
        cases hf : f ds h <;> rw [hf] at e <;> first | rfl | cases e
      show Φ c h1 (sSeq f g ds h)
      rw [e2]
      exact hΦ
  | exc x h1 =>
    rw [z] at p
    obtain ⟨ds', e⟩ := p
    exact ⟨ds', by unfold sSeq; rw [e]⟩
  | bad => trivial
/-! ### loops -/
theorem forT0_se {u : Ty α} {E : σ → DS → Prop} {ftg : D → DS → Option DS} {fb : SF} {body : α → σ → T σ} (H : ∀ a s ds, E s ds → ∃ ds1, ftg (u.enc a) ds = some ds1 ∧ SJ (ΦB0 E) ds1 fb (body a s)) :
    ∀ (l : List α) (s : σ) (ds : DS), E s ds → SJ (ΦJ0 E) ds (forL ftg fb (l.map u.enc)) (forT0 body l s)
  | [], s, ds, e => fun h => ⟨ds, e, rfl⟩
  | a :: l, s, ds, e => fun h => by
    obtain ⟨ds1, e1, p⟩ := H a s ds e
    have p := p h
    have e2 : forL ftg fb ((a :: l).map u.enc) ds h = match fb ds1 h with
      | .nx ds2 h2 => forL ftg fb (l.map u.enc) ds2 h2
      | .ct ds2 h2 => forL ftg fb (l.map u.enc) ds2 h2
      | .bk ds2 h2 => .nx ds2 h2
      | o => o := by
      rw [List.map_cons]
      show orBadS (ftg (u.enc a) ds) _ = _
      rw [e1]; rfl
    rw [e2]
    show SX _ _ ((body a s h).bind _)
    cases z : body a s h with
    | ok s2 h2 =>
      rw [z] at p
      obtain ⟨ds2, hE, eo⟩ := p
      have := forT0_se H l s2 ds2 hE h2
      rcases eo with eo | eo <;> rw [eo] <;> exact this
    | exc x h2 =>
      rw [z] at p
      obtain ⟨ds2, eo⟩ := p
      rw [eo]
      exact ⟨ds2, rfl⟩
    | bad => trivial
theorem forT_se {u : Ty α} {E : σ → DS → Prop} {ftg : D → DS → Option DS} {fb : SF} {body : α → σ → T (Lp σ γ)} (H : ∀ a s ds, E s ds → ∃ ds1, ftg (u.enc a) ds = some ds1 ∧ SJ (ΦB E Φ) ds1 fb (body a s)) :
    ∀ (l : List α) (s : σ) (ds : DS), E s ds → SJ (ΦJ E Φ) ds (forL ftg fb (l.map u.enc)) (forT body l s)
  | [], s, ds, e => fun h => ⟨ds, e, rfl⟩
  | a :: l, s, ds, e => fun h => by
    obtain ⟨ds1, e1, p⟩ := H a s ds e
    have p := p h
    have e2 : forL ftg fb ((a :: l).map u.enc) ds h = match fb ds1 h with
      | .nx ds2 h2 => forL ftg fb (l.map u.enc) ds2 h2
      | .ct ds2 h2 => forL ftg fb (l.map u.enc) ds2 h2
      | .bk ds2 h2 => .nx ds2 h2
      | o => o := by
      rw [List.map_cons]
      show orBadS (ftg (u.enc a) ds) _ = _
      rw [e1]; rfl
    rw [e2]
    show SX _ _ ((body a s h).bind _)
    cases z : body a s h with
    | ok r h2 =>
      rw [z] at p
      cases r with
      | nx s2 =>
        obtain ⟨ds2, hE, eo⟩ := p
        have := forT_se H l s2 ds2 hE h2
        rcases eo with eo | eo <;> rw [eo] <;> exact this
      | bk s2 =>
        obtain ⟨ds2, hE, eo⟩ := p
        rw [eo]
        exact ⟨ds2, hE, rfl⟩
      | out c =>
        obtain ⟨s, eo, q⟩ := p
        rw [eo]
        exact ⟨q, rfl⟩
    | exc x h2 =>
      rw [z] at p
      obtain ⟨ds2, eo⟩ := p
      rw [eo]
      exact ⟨ds2, rfl⟩
    | bad => trivial
theorem for_so {u : Ty α} {Ψ : Ph β} {fi : DS → LH → Out (List D)} {ftg : D → DS → Option DS} {fb : SF} {ti : T (List α)} {k : List α → T β} (p : J ds fi (it u) ti) (q : ∀ l, SJ Ψ ds (forL ftg fb (l.map u.enc)) (k l)) : SJ Ψ ds (sFor fi ftg fb) (T.bind ti k) :=
  SJ.of (δ := Unit) p (fun h => rfl) fun l h => q l h
theorem SJ.for0 {u : Ty α} {E : σ → DS → Prop} {fi : DS → LH → Out (List D)} {ftg : D → DS → Option DS} {fb : SF} {ti : T (List α)} {s0 : σ} {body : α → σ → T σ} {k : σ → T γ} (p : J ds fi (it u) ti) (h0 : E s0 ds)
    (H : ∀ a s ds, E s ds → ∃ ds1, ftg (u.enc a) ds = some ds1 ∧ SJ (ΦB0 E) ds1 fb (body a s)) (q : ∀ s ds', E s ds' → SJ Φ ds' g (k s)) : SJ Φ ds (sSeq (sFor fi ftg fb) g) (T.bind ti fun l => T.bind (forT0 body l s0) k) := by
  have := SJ.join (k := k) (for_so (Ψ := ΦJ0 E) p fun l => forT0_se H l s0 ds h0) q
  rwa [T.bind_assoc] at this
theorem SJ.for_ {u : Ty α} {E : σ → DS → Prop} {fi : DS → LH → Out (List D)} {ftg : D → DS → Option DS} {fb : SF} {ti : T (List α)} {s0 : σ} {body : α → σ → T (Lp σ γ)} {k : σ → T γ} (p : J ds fi (it u) ti) (h0 : E s0 ds)
    (H : ∀ a s ds, E s ds → ∃ ds1, ftg (u.enc a) ds = some ds1 ∧ SJ (ΦB E Φ) ds1 fb (body a s)) (q : ∀ s ds', E s ds' → SJ Φ ds' g (k s)) : SJ Φ ds (sSeq (sFor fi ftg fb) g) (T.bind ti fun l => T.bind (forT body l s0) (Jn.go k)) := by
  have := SJ.joinJ (k := k) (for_so (Ψ := ΦJ E Φ) p fun l => forT_se H l s0 ds h0) q
  rwa [T.bind_assoc] at this
theorem whileN_t {ft : DS → LH → Out Bool} {fb : SF} {n : Nat} {h h1 : LH} (e : ft ds h = .ok true h1) : whileN ft fb (n + 1) ds h = match fb ds h1 with
    | .nx ds2 h2 => whileN ft fb n ds2 h2
    | .ct ds2 h2 => whileN ft fb n ds2 h2
    | .bk ds2 h2 => .nx ds2 h2
    | o => o := by
  show (ft ds h).so ds _ = _
  rw [e]; rfl
theorem whileN_f {ft : DS → LH → Out Bool} {fb : SF} {n : Nat} {h h1 : LH} (e : ft ds h = .ok false h1) : whileN ft fb (n + 1) ds h = .nx ds h1 := by
  show (ft ds h).so ds _ = _
  rw [e]; rfl
theorem whileT0_se {E : σ → DS → Prop} {ft : DS → LH → Out Bool} {fb : SF} {c : σ → T Bool} {body : σ → T σ} (C : ∀ s ds, E s ds → J ds ft idB (c s)) (H : ∀ s ds, E s ds → SJ (ΦB0 E) ds fb (body s)) :
    ∀ (n : Nat) (s : σ) (ds : DS), E s ds → SJ (ΦJ0 E) ds (whileN ft fb n) (whileT0 c body n s)
  | 0, s, ds, e => fun h => trivial
  | n + 1, s, ds, e => fun h => by
    have pc := C s ds e h
    show SX _ _ ((c s h).bind _)
    cases z : c s h with
    | ok b h1 =>
      rw [z] at pc
      have pc : ft ds h = .ok b h1 := pc
      cases b with
      | false => rw [whileN_f pc]; exact ⟨ds, e, rfl⟩
      | true =>
        rw [whileN_t pc]
        have p := H s ds e h1
        show SX _ _ ((body s h1).bind _)
        cases z : body s h1 with
        | ok s2 h2 =>
          rw [z] at p
          obtain ⟨ds2, hE, eo⟩ := p
          have := whileT0_se C H n s2 ds2 hE h2
          rcases eo with eo | eo <;> rw [eo] <;> exact this
        | exc x h2 =>
          rw [z] at p
          obtain ⟨ds2, eo⟩ := p
          rw [eo]
          exact ⟨ds2, rfl⟩
        | bad => trivial
    | exc x h1 =>
      rw [z] at pc
      have pc : ft ds h = .exc x h1 := pc
      refine ⟨ds, ?_⟩
      show (ft ds h).so ds _ = _
      rw [pc]; rfl
    | bad => trivial
theorem whileT_se {E : σ → DS → Prop} {ft : DS → LH → Out Bool} {fb : SF} {c : σ → T Bool} {body : σ → T (Lp σ γ)} (C : ∀ s ds, E s ds → J ds ft idB (c s)) (H : ∀ s ds, E s ds → SJ (ΦB E Φ) ds fb (body s)) :
    ∀ (n : Nat) (s : σ) (ds : DS), E s ds → SJ (ΦJ E Φ) ds (whileN ft fb n) (whileT c body n s)
  | 0, s, ds, e => fun h => trivial
  | n + 1, s, ds, e => fun h => by
    have pc := C s ds e h
    show SX _ _ ((c s h).bind _)
    cases z : c s h with
    | ok b h1 =>
      rw [z] at pc
      have pc : ft ds h = .ok b h1 := pc
      cases b with
      | false => rw [whileN_f pc]; exact ⟨ds, e, rfl⟩
      | true =>
        rw [whileN_t pc]
        have p := H s ds e h1
        show SX _ _ ((body s h1).bind _)
        cases z : body s h1 with
        | ok r h2 =>
          rw [z] at p
          cases r with
          | nx s2 =>
            obtain ⟨ds2, hE, eo⟩ := p
            have := whileT_se C H n s2 ds2 hE h2
            rcases eo with eo | eo <;> rw [eo] <;> exact this
          | bk s2 =>
            obtain ⟨ds2, hE, eo⟩ := p
            rw [eo]
            exact ⟨ds2, hE, rfl⟩
          | out c =>
            obtain ⟨s, eo, q⟩ := p
            rw [eo]
            exact ⟨q, rfl⟩
        | exc x h2 =>
          rw [z] at p
          obtain ⟨ds2, eo⟩ := p
          rw [eo]
          exact ⟨ds2, rfl⟩
        | bad => trivial
    | exc x h1 =>
      rw [z] at pc
      have pc : ft ds h = .exc x h1 := pc
      refine ⟨ds, ?_⟩
      show (ft ds h).so ds _ = _
      rw [pc]; rfl
    | bad => trivial
theorem SJ.while0 {E : σ → DS → Prop} {ft : DS → LH → Out Bool} {fb : SF} {n : Nat} {c : σ → T Bool} {s0 : σ} {body : σ → T σ} {k : σ → T γ} (h0 : E s0 ds) (C : ∀ s ds, E s ds → J ds ft idB (c s))
    (H : ∀ s ds, E s ds → SJ (ΦB0 E) ds fb (body s)) (q : ∀ s ds', E s ds' → SJ Φ ds' g (k s)) : SJ Φ ds (sSeq (whileN ft fb n) g) (T.bind (whileT0 c body n s0) k) :=
  SJ.join (whileT0_se C H n s0 ds h0) q
theorem SJ.while_ {E : σ → DS → Prop} {ft : DS → LH → Out Bool} {fb : SF} {n : Nat} {c : σ → T Bool} {s0 : σ} {body : σ → T (Lp σ γ)} {k : σ → T γ} (h0 : E s0 ds) (C : ∀ s ds, E s ds → J ds ft idB (c s))
    (H : ∀ s ds, E s ds → SJ (ΦB E Φ) ds fb (body s)) (q : ∀ s ds', E s ds' → SJ Φ ds' g (k s)) : SJ Φ ds (sSeq (whileN ft fb n) g) (T.bind (whileT c body n s0) (Jn.go k)) :=
  SJ.joinJ (whileT_se C H n s0 ds h0) q
/-! ### defs -/
theorem run_se {m : Nat} {fb : SF} {xs : List SV} {e : ρ → SV} {tr : T ρ} {ds : DS} (e0 : xs.map some ++ List.replicate (m - xs.length) none = ds) (p : SJ (Φr e) ds fb tr) : ∀ h, SE e (runOf m fb xs h) (tr h) := fun h => by
  rw [run_fin e0]
  have p := p h
  cases z : tr h with
  | ok c h1 => rw [z] at p; exact p
  | exc x h1 =>
    rw [z] at p
    obtain ⟨ds', eo⟩ := p
    show fin (fb ds h) = _
    rw [eo]; rfl
  | bad => trivial
end
end U
/-! Y4: more operations in types. -/
namespace U
open PySem PySem.Spec PyProof.Rows L2 PySem.W
section
variable {α β γ : Type} {t : Ty α} {u : Ty β} {e : List α → SV} {ds : DS} {fa fo fe : DS → LH → Out SV}
theorem call0_se {ea : α → SV} {run : RF} {r : T α} {h : LH} (ho : ∀ a, (match ea a with | .own _ => false | _ => true) = true) (q : SE ea (run [] h) (r h)) : SE ea (gCall run [] h) (r h) := by
  unfold gCall
  rw [iff_t (show ([] : List SV).all handB = true from rfl)]
  cases z : r h with
  | ok a h1 =>
    rw [z] at q
    have q : run [] h = .ok (ea a) h1 := q
    rw [q]
    have := ho a
    show (match (Out.ok (ea a) h1 : Out SV) with | .ok (.own _) _ => Out.bad | o => o) = _
    cases e2 : ea a <;> rw [e2] at this <;> first | rfl | cases this
  | exc x h1 => rw [z] at q; have q : run [] h = .exc x h1 := q; rw [q]; exact rfl
  | bad => trivial
theorem PJ.sc {s z : Str} (e : s = z) : PJ ds (eC (.str s)) (v tS z) := fun h => by rw [e]; rfl
theorem J.strI {ts : T Str} (p : J ds fa (v tS) ts) : J ds (iStr' fa) (it tS) (T.bind ts fun a => T.pure (signsT a)) := fun h => (p h).bind fun s h1 => by
  show Out.ok (signs s) h1 = .ok ((signsT s).map tS.enc) h1
  unfold signs signsT
  rw [List.map_map]; rfl
theorem PJ.ownI {l : List α} (p : PJ ds fa (ow t l)) : PJ ds (iOwn fa) (it t l) := fun h => by
  show (fa ds h).bind _ = _
  rw [p h]; rfl
theorem o_isF (a : α) (h : LH) : gIs false (v t a) (.val .none) h = .ok (v tB (isNE t a)) h := (o_is false (t.enc a) h).trans (by rw [Bool.false_xor]; rfl)
theorem o_isT (a : α) (h : LH) : gIs true (v t a) (.val .none) h = .ok (v tB (!isNE t a)) h := (o_is true (t.enc a) h).trans (by rw [Bool.true_xor]; rfl)
theorem o_inF (S : SqE e t) (h1 : t.n < 100) (h2 : u.n < 100) (a : β) (l : List α) (h : LH) : gIn false (v u a) (e l) h = .ok (v tB (inX t u a l)) h := (o_in false S h1 h2 a l h).trans (by rw [Bool.false_xor])
theorem o_inT (S : SqE e t) (h1 : t.n < 100) (h2 : u.n < 100) (a : β) (l : List α) (h : LH) : gIn true (v u a) (e l) h = .ok (v tB (!inX t u a l)) h := (o_in true S h1 h2 a l h).trans (by rw [Bool.true_xor])
theorem o_inSF (a b : Str) (h : LH) : gIn false (v tS a) (v tS b) h = .ok (v tB (inStr a b)) h := (o_inS false a b h).trans (by rw [Bool.false_xor])
theorem o_inST (a b : Str) (h : LH) : gIn true (v tS a) (v tS b) h = .ok (v tB (!inStr a b)) h := (o_inS true a b h).trans (by rw [Bool.true_xor])
/-- lists of the logical heap -/
def newL (t : Ty α) (l : List α) : T Nat := fun h => .ok h.length (h ++ [.lst (l.map fun a => SV.val (t.enc a))])
theorem o_newL (S : SqE e t) (l : List α) (h : LH) : SE SV.ref (gListH [e l] h) (newL t l h) := by
  show SE SV.ref (orBad (asSeq (e l)) _) _
  rw [S.seq]
  show Out.ok (SV.ref h.length) (h ++ [GO.lst ((l.map t.enc).map SV.val)]) = _
  rw [List.map_map]; rfl
def refT (n : Nat) : T (List SV) := fun h => match h[n]? with
  | some (.lst xs) => .ok xs h
  | _ => .bad
theorem refLst_n (h : LH) (n : Nat) : refLst h (.ref n) = match h[n]? with
  | some (.lst xs) => some (n, xs)
  | _ => none := rfl
def truL (n : Nat) : T Bool := T.bind (refT n) fun xs => T.pure (!xs.isEmpty)
def lenL (n : Nat) : T Int := T.bind (refT n) fun xs => T.pure (xs.length : Int)
theorem ref_cases (h : LH) (n : Nat) : (∃ xs, refLst h (.ref n) = some (n, xs) ∧ refT n h = .ok xs h) ∨ (refLst h (.ref n) = none ∧ refT n h = .bad) := by
  rw [refLst_n]
  unfold refT
  cases h[n]? with
  | none => exact .inr ⟨rfl, rfl⟩
  | some o => cases o with
    | lst xs => exact .inl ⟨xs, rfl, rfl⟩
    | ins C fs => exact .inr ⟨rfl, rfl⟩
theorem J.truH {n : Nat} (p : PJ ds fa (.ref n)) : J ds (tTruH fa) idB (truL n) := fun h => by
  show SE _ ((fa ds h).bind _) ((refT n h).bind _)
  rw [p h]
  show SE _ (orNext (refLst h (.ref n)) _ _) _
  rcases ref_cases h n with ⟨xs, e1, e2⟩ | ⟨e1, e2⟩ <;> rw [e1, e2]
  · exact rfl
  · trivial
theorem o_lenL (n : Nat) (h : LH) : SE (v tI) (gLenH [.ref n] h) (lenL n h) := by
  show SE _ (orNext (refLst h (.ref n)) _ _) ((refT n h).bind _)
  rcases ref_cases h n with ⟨xs, e1, e2⟩ | ⟨e1, e2⟩ <;> rw [e1, e2]
  · exact rfl
  · trivial
def asT (t : Ty α) : SV → Option α
  | .val d => t.dec d
  | _ => none
theorem asT_enc {s : SV} {a : α} (h : asT t s = some a) : s = .val (t.enc a) := by
  cases s with
  | val d => exact congrArg SV.val (t.ok d a h)
  | _ => cases h
def popL (t : Ty α) (n : Nat) (i : Int) : T α := T.bind (refT n) fun xs => T.guard (okRb i = true) (T.bind (T.opt (ixN xs.length i)) fun k h => orBad (xs[k]?.bind (asT t)) fun a => .ok a (h.set n (.lst (xs.eraseIdx k))))
theorem J.pop {n : Nat} {fi : DS → LH → Out SV} {ti : T Int} (p : PJ ds fo (.ref n)) (q : J ds fi (v tI) ti) : J ds (ePop fo fi) (v t) (T.bind (refT n) fun _ => T.bind ti fun i => popL t n i) := fun h => by
  show SE _ ((fo ds h).bind _) ((refT n h).bind _)
  rw [p h]
  show SE _ (orBad (refLst h (.ref n)) _) _
  rcases ref_cases h n with ⟨xs, e1, e2⟩ | ⟨e1, e2⟩ <;> rw [e1, e2]
  · refine (q h).bind fun i h2 => ?_
    show SE _ (orBad (both (refLst h2 (.ref n)) (some i)) _) ((refT n h2).bind _)
    rcases ref_cases h2 n with ⟨ys, e3, e4⟩ | ⟨e3, e4⟩ <;> rw [e3, e4]
    · show SE _ (iff (okR i) _) (T.guard (okRb i = true) _ h2)
      refine guard_bind (fun z => (okRb_eq i).mp z) ?_
      show SE _ (orBad (ixN ys.length i) _) ((T.opt (ixN ys.length i) h2).bind _)
      cases ixN ys.length i with
      | none => trivial
      | some k =>
        show SE (v t) (orBad ys[k]? fun s => Out.ok s (h2.set n (.lst (ys.eraseIdx k)))) (orBad (ys[k]?.bind (asT t)) fun a => Out.ok a (h2.set n (.lst (ys.eraseIdx k))))
        cases ys[k]? with
        | none => trivial
        | some s =>
          show SE (v t) _ (orBad (asT t s) _)
          cases es : asT t s with
          | none => trivial
          | some a => rw [asT_enc es]; exact rfl
    · trivial
  · trivial
def dyr (o : Out SV) : Out Nat := match o with
  | .ok (.ref n) h => .ok n h
  | .exc x h => .exc x h
  | _ => .bad
theorem dyr_se (o : Out SV) : SE SV.ref o (dyr o) := by
  cases o with
  | ok s h => cases s <;> first | exact rfl | trivial
  | exc x h => exact rfl
  | bad => trivial
theorem call_dyr {n : Nat} {g : List SV → LH → Out SV} {xs : List SV} (hn : xs.length = n) : ∀ h, SE SV.ref (nArgs n g xs h) (dyr (g xs h)) := fun h => by
  rw [show nArgs n g xs h = g xs h from iff_t hn _]
  exact dyr_se _
def ixS (s : Str) (i : Int) : T Str := fun h => dy tS (gIxA (v tS s) (v tI i) h)
theorem o_ixS (s : Str) (i : Int) (h : LH) : SE (v tS) (gIxA (v tS s) (v tI i) h) (ixS s i h) := dy_se _ _
def ixD (d : D) (i : Int) : T D := fun h => dy tD (gIxA (.val d) (v tI i) h)
theorem o_ixD (d : D) (i : Int) (h : LH) : SE (v tD) (gIxA (.val d) (v tI i) h) (ixD d i h) := dy_se _ _
def addD (a b : D) : T D := fun h => dy tD (gAdd (.val a) (.val b) h)
def lenD (d : D) : T Int := fun h => dy tI (gLen [.val d] h)
def eqD (a b : D) : T Bool := T.guard (cEq a b = true) (T.pure (PyData.eqv a b))
def neD (a b : D) : T Bool := T.guard (cEq a b = true) (T.pure (!PyData.eqv a b))
theorem o_eqD (a b : D) (h : LH) : SE (v tB) (gEq (.val a) (.val b) h) (eqD a b h) := guard_se (e := v tB) _ _ h
theorem o_neD (a b : D) (h : LH) : SE (v tB) (gNe (.val a) (.val b) h) (neD a b h) := guard_se (e := v tB) _ _ h
def inD (neg : Bool) (t : Ty α) (a : D) (l : List α) : T Bool := T.guard (PyData.plainAll (l.map t.enc) = true ∧ okD a = true) (T.pure (neg ^^ l.any fun z => PyData.eqv (t.enc z) a))
theorem o_inD (neg : Bool) (S : SqE e t) (a : D) (l : List α) (h : LH) : SE (v tB) (gIn neg (.val a) (e l) h) (inD neg t a l h) := by
  unfold gIn inD
  rw [S.ns, both_n2, orNext_none, S.seq]
  show SE (v tB) (iff _ (.ok (.val (.bool (neg ^^ (l.map t.enc).any _))) h)) _
  rw [List.any_map]
  exact guard_se (e := v tB) _ _ h
/-- sorted -/
def sortT (t : Ty α) (l : List α) : T (List α) := T.guard (sortB (l.map t.enc) = true) (T.pure (l.mergeSort (dataLe false t.enc)))
theorem sortD_map (t : Ty α) (l : List α) : sortD (l.map t.enc) = (l.mergeSort (dataLe false t.enc)).map t.enc := (List.map_mergeSort (r := dataLe false t.enc) (s := dataLe false id) (fun _ _ _ _ => rfl)).symm
theorem J.sort (S : SqE e t) {l : List α} (p : PJ ds fa (e l)) : J ds (fSort fa) (it t) (sortT t l) := fun h => by
  show SE _ ((fa ds h).bind _) _
  rw [p h]
  show SE _ (orBad (asSeq (e l)) _) _
  rw [S.seq, orBad_some]
  exact iff_l (sortD_map t l).symm
theorem J.sortM (S : SqE e t) {tl : T (List α)} (p : J ds fa e tl) : J ds (fSort fa) (it t) (T.bind tl (sortT t)) := fun h => (p h).bind fun l h1 => by
  show SE _ (orBad (asSeq (e l)) _) _
  rw [S.seq, orBad_some]
  exact iff_l (sortD_map t l).symm
/-- count -/
def countX (t : Ty α) (u : Ty β) (a : β) (l : List α) : Int := (l.countP fun z => PyData.eqv (t.enc z) (u.enc a) : Nat)
structure LsE (e : List α → SV) (t : Ty α) : Prop where
  lst : ∀ l, asLst (e l) = some (l.map t.enc)
theorem lsL : LsE (v (tL t)) t := ⟨fun _ => rfl⟩
theorem lsW : LsE (ow t) t := ⟨fun _ => rfl⟩
theorem PJ.count (S : LsE e t) (h1 : t.n < 100) (h2 : u.n < 100) {l : List α} {a : β} (p : PJ ds fo (e l)) (q : PJ ds fe (v u a)) : PJ ds (eL1 gCount fo fe) (v tI (countX t u a l)) := fun h => by
  show (fo ds h).bind _ = _
  rw [p h]
  show orBad (asLst (e l)) _ = _
  rw [S.lst, orBad_some, q h]
  show iff (PyData.plainAll (l.map t.enc) = true ∧ okD (u.enc a) = true) _ = _
  rw [iff_t ⟨(plAll t h1 l).1, okD_t h2 a⟩, List.countP_map]
  rfl
def countD (t : Ty α) (a : D) (l : List α) : T Int := T.guard (PyData.plainAll (l.map t.enc) = true ∧ okD a = true) (T.pure ((l.countP fun z => PyData.eqv (t.enc z) a : Nat) : Int))
theorem J.countD (S : LsE e t) {l : List α} {a : D} (p : PJ ds fo (e l)) (q : PJ ds fe (.val a)) : J ds (eL1 gCount fo fe) (v tI) (U.countD t a l) := fun h => by
  show SE _ ((fo ds h).bind _) _
  rw [p h]
  show SE _ (orBad (asLst (e l)) _) _
  rw [S.lst, orBad_some, q h]
  show SE _ (iff (PyData.plainAll (l.map t.enc) = true ∧ okD a = true) (Out.ok (SV.val (PyData.int ((l.map t.enc).countP _ : Nat))) h)) _
  rw [List.countP_map]
  exact guard_se (e := v tI) _ _ h
end
end U
/-! Y5: try in types. -/
namespace U
open PySem PySem.Spec PyProof.Rows L2 PySem.W
def tryT {γ : Type} (t : T γ) (hd : XV → T γ) : T γ := fun h => match t h with
  | .exc x h1 => hd x h1
  | .ok a h1 => .ok a h1
  | .bad => .bad
@[simp] theorem tryT_pure {γ : Type} (a : γ) (hd : XV → T γ) : tryT (T.pure a) hd = T.pure a := rfl
@[simp] theorem tryT_raise {γ : Type} (x : XV) (hd : XV → T γ) : tryT (T.raise x) hd = hd x := rfl
def hdT {γ : Type} (o : Option Bool) (a b : T γ) : T γ := match o with
  | some true => a
  | some false => b
  | none => T.bad
@[simp] theorem hdT_t {γ : Type} (a b : T γ) : hdT (some true) a b = a := rfl
@[simp] theorem hdT_f {γ : Type} (a b : T γ) : hdT (some false) a b = b := rfl
theorem clean_nil : clean [] = true := rfl
theorem clean_cons {s : Option SV} {r : DS} (h : okJ s) (c : clean r = true) : clean (s :: r) = true := by
  unfold clean at *
  rw [List.all_cons, c]
  cases s with
  | none => rfl
  | some s => cases s <;> first | rfl | exact h.elim
def SX0 {γ : Type} (Φ : Ph γ) (D : DS) (o : SO) (r : Out γ) : Prop := match r with
  | .ok c h' => Φ c h' o
  | .exc x h' => o = .exc x D h'
  | .bad => True
/-- .. where what is raised leaves the slots -/
def SJ0 {γ : Type} (Φ : Ph γ) (ds : DS) (f : SF) (t : T γ) : Prop := ∀ h, SX0 Φ ds (f ds h) (t h)
def cleanO : SO → Bool
  | .nx ds _ => clean ds
  | .bk ds _ => clean ds
  | .ct ds _ => clean ds
  | .rt _ _ => true
  | _ => false
def Φc {γ : Type} (Φ : Ph γ) : Ph γ := fun c h o => Φ c h o ∧ cleanO o = true
def ΦS {γ : Type} (i : Option Nat) (Φ : Ph γ) : Ph γ := fun c h o => Φ c h (outS i o)
def HJ {γ : Type} (Φ : Ph γ) (ds : DS) (sub : Str → Str → Option Bool) (cs : List ClD) (hd : XV → T γ) : Prop := ∀ x h, SX Φ (catchL sub x cs ds h) (hd x h)
section
variable {α β σ γ ρ : Type} {Φ : Ph γ} {ds : DS} {f f' g : SF} {t ta tb : T γ} {fe : DS → LH → Out SV} {i : Nat} {sub : Str → Str → Option Bool} {cs : List ClD} {hd : XV → T γ}
theorem SJ0.of {δ ε : Type} {e : α → ε} {fa : DS → LH → Out ε} {ta : T α} {k : α → T γ} {m : ε → LH → SO} (p : J ds fa e ta) (eq : ∀ h, f ds h = (fa ds h).so ds m) (q : ∀ a h, SX0 Φ ds (m (e a) h) (k a h)) : SJ0 Φ ds f (T.bind ta k) := fun h => by
  have p := p h
  rw [eq]
  show SX0 Φ ds _ ((ta h).bind _)
  cases z : ta h with
  | ok a h1 =>
    rw [z] at p
    have p : fa ds h = .ok (e a) h1 := p
    rw [p]
    exact q a h1
  | exc x h1 =>
    rw [z] at p
    have p : fa ds h = .exc x h1 := p
    rw [p]
    exact rfl
  | bad => trivial
theorem SJ0.expr {e : α → SV} {ta : T α} {c : γ} (p : J ds fe e ta) (q : ∀ h, Φ c h (.nx ds h)) : SJ0 Φ ds (sExpr fe) (T.bind ta fun _ => T.pure c) :=
  SJ0.of (δ := Unit) p (fun h => rfl) fun a h => q h
theorem SJ0.set {e : α → SV} {ta : T α} {inj : α → γ} (p : J ds fe e ta) (hs : ∀ a, storeB (e a) = true) (q : ∀ a h, Φ (inj a) h (.nx (ds.set i (some (e a))) h)) : SJ0 Φ ds (sSet i fe) (T.bind ta fun a => T.pure (inj a)) :=
  SJ0.of (δ := Unit) p (fun h => rfl) fun a h => by
    rw [show iffS (storeB (e a) = true) (.nx (ds.set i (some (e a))) h) = .nx (ds.set i (some (e a))) h from if_pos (hs a)]
    exact q a h
theorem SJ0.ret {e : ρ → SV} {tr : T ρ} {inj : ρ → γ} (p : J ds fe e tr) (hp : ∀ a, plainS (e a) = true) (c : ∀ a h, Φ (inj a) h (.rt (e a) h)) : SJ0 Φ ds (sRet fe) (T.bind tr fun a => T.pure (inj a)) :=
  SJ0.of (δ := Unit) p (fun h => rfl) fun a h => by
    rw [show iffS (plainS (e a) = true) (.rt (e a) h) = .rt (e a) h from if_pos (hp a)]
    exact c a h
theorem SJ0.ifP {ft : DS → LH → Out Bool} {c : Bool} (p : PJ ds ft c) (a : SJ0 Φ ds f ta) (b : SJ0 Φ ds f' tb) : SJ0 Φ ds (sIf ft f f') (if c then ta else tb) := fun h => by
  have e : sIf ft f f' ds h = (if c then f else f') ds h := by
    unfold sIf
    rw [p h]
    cases c <;> rfl
  rw [e]
  cases c with
  | true => exact a h
  | false => exact b h
theorem SJ0.ifM {ft : DS → LH → Out Bool} {tc : T Bool} (p : J ds ft idB tc) (a : SJ0 Φ ds f ta) (b : SJ0 Φ ds f' tb) : SJ0 Φ ds (sIf ft f f') (T.bind tc fun c => if c then ta else tb) :=
  SJ0.of (δ := Unit) (m := fun c h1 => (if c then f else f') ds h1) p (fun h => by
    unfold sIf
    cases ft ds h with
    | ok c h1 => cases c <;> rfl
    | exc x h1 => rfl
    | bad => rfl) fun c h => by
    cases c with
    | true => exact a h
    | false => exact b h
theorem SJ0.end_ {c : γ} (q : ∀ h, Φ c h (.nx ds h)) : SJ0 Φ ds sNil (T.pure c) := fun h => q h
theorem HJ.nil : HJ Φ ds sub [] fun x => T.raise x := fun x h => ⟨ds, rfl⟩
theorem SX.calm {o : SO} {r : Out γ} {i : Option Nat} (p : SX (ΦS i Φ) o r) : SX Φ (outS i o) r.calm := by
  cases r with
  | ok c h => exact p
  | exc x h => trivial
  | bad => trivial
theorem HJ.bare {C : Str} {ts : T γ} (p : SJ (ΦS none Φ) ds f ts) (q : HJ Φ ds sub cs hd) : HJ Φ ds sub ((C, none, f) :: cs) fun x => hdT (sub x.cls C) (T.calm ts) (hd x) := fun x h => by
  show SX Φ (match sub x.cls C with
    | some true => outS none (f ds h)
    | some false => catchL sub x cs ds h
    | none => .bad) (hdT (sub x.cls C) (T.calm ts) (hd x) h)
  cases sub x.cls C with
  | none => trivial
  | some b =>
    cases b with
    | true => exact (p h).calm
    | false => exact q x h
theorem HJ.named {C : Str} {ts : XV → T γ} (p : ∀ x, SJ (ΦS (some i) Φ) (ds.set i (some (.exc x))) f (ts x)) (q : HJ Φ ds sub cs hd) : HJ Φ ds sub ((C, some i, f) :: cs) fun x => hdT (sub x.cls C) (T.calm (ts x)) (hd x) := fun x h => by
  show SX Φ (match sub x.cls C with
    | some true => outS (some i) (f (ds.set i (some (.exc x))) h)
    | some false => catchL sub x cs ds h
    | none => .bad) (hdT (sub x.cls C) (T.calm (ts x)) (hd x) h)
  cases sub x.cls C with
  | none => trivial
  | some b =>
    cases b with
    | true => exact (p x h).calm
    | false => exact q x h
theorem SJ.try_ (c : clean ds = true) (p : SJ0 (Φc Φ) ds f t) (q : HJ Φ ds sub cs hd) : SJ Φ ds (sTry sub f cs) (tryT t hd) := fun h => by
  have p := p h
  unfold sTry tryT
  rw [iffS_pos c]
  cases z : t h with
  | ok a h1 =>
    rw [z] at p
    obtain ⟨p1, p2⟩ := p
    show Φ a h1 _
    cases e : f ds h with
    | nx ds' h' => rw [e] at p1 p2; show Φ a h1 (iffS (clean ds' = true) (.nx ds' h')); rw [iffS_pos (show clean ds' = true from p2)]; exact p1
    | bk ds' h' => rw [e] at p1 p2; show Φ a h1 (iffS (clean ds' = true) (.bk ds' h')); rw [iffS_pos (show clean ds' = true from p2)]; exact p1
    | ct ds' h' => rw [e] at p1 p2; show Φ a h1 (iffS (clean ds' = true) (.ct ds' h')); rw [iffS_pos (show clean ds' = true from p2)]; exact p1
    | rt s h' => rw [e] at p1; exact p1
    | exc x ds' h' => rw [e] at p2; cases p2
    | bad => rw [e] at p2; cases p2
  | exc x h1 =>
    rw [z] at p
    have p : f ds h = .exc x ds h1 := p
    rw [p]
    show SX Φ (iffS (clean ds = true) (catchL sub x cs ds h1)) _
    rw [iffS_pos c]
    exact q x h1
  | bad => trivial
def isET (tab : Str → Str → Option Bool) (C : Str) (x : XV) : T Bool := T.guard (x.fs.isEmpty = true) (T.opt (tab x.cls C))
theorem J.isE {tab : Str → Str → Option Bool} {C : Str} {x : XV} (e : ds[i]? = some (some (.exc x))) : J ds (eIsE tab C i) (v tB) (isET tab C x) := fun h => by
  unfold eIsE
  rw [e]
  show SE _ (iff (x.fs.isEmpty = true) (orBad (tab x.cls C) fun b => Out.ok (SV.val (PyData.bool b)) h)) (T.guard _ _ h)
  refine guard_bind (fun z => z) ?_
  exact opt_se _ h
theorem SJ.endS {j : Option Nat} {c : γ} (cl : clean (putD j ds none) = true) (q : ∀ h, Φ c h (.nx (putD j ds none) h)) : SJ (ΦS j Φ) ds sNil (T.pure c) := fun h => by
  show Φ c h (iffS (clean (putD j ds none) = true) (.nx (putD j ds none) h))
  rw [iffS_pos cl]
  exact q h
end
end U
/-! Y6: what does not look at the logical heap. -/
namespace U
open PySem PySem.Spec PyProof.Rows L2 PySem.W
def lf {α : Type} (o : Out α) (h : LH) : Out α := match o with
  | .ok a _ => .ok a h
  | .exc x _ => .exc x h
  | .bad => .bad
/-- t does not look at the heap, and leaves it -/
def HI {α : Type} (t : T α) : Prop := ∀ h, t h = lf (t []) h
section
variable {α β γ σ : Type}
theorem HI.of {t : T α} {r : Out α} (q : ∀ h, t h = lf r h) : HI t := fun h => by
  rw [q h, q []]
  cases r <;> rfl
theorem HI.pure (a : α) : HI (T.pure a) := fun h => rfl
theorem HI.raise (x : XV) : HI (T.raise x : T α) := fun h => rfl
theorem HI.bad : HI (T.bad : T α) := fun h => rfl
theorem HI.bind {t : T α} {k : α → T β} (p : HI t) (q : ∀ a, HI (k a)) : HI (T.bind t k) := by
  refine HI.of (r := match t [] with | .ok a _ => k a [] | .exc x h => .exc x h | .bad => .bad) fun h => ?_
  show (t h).bind _ = _
  rw [p h]
  cases t [] with
  | ok a h1 => exact q a h
  | exc x h1 => rfl
  | bad => rfl
theorem HI.ite {c : Prop} [Decidable c] {t u : T α} (p : HI t) (q : HI u) : HI (if c then t else u) := by
  by_cases z : c
  · rw [if_pos z]; exact p
  · rw [if_neg z]; exact q
theorem HI.guard {c : Prop} [Decidable c] {t : T α} (p : HI t) : HI (T.guard c t) := by
  by_cases z : c
  · rw [T.guard_pos z]; exact p
  · have : T.guard c t = T.bad := funext fun h => if_neg z
    rw [this]; exact HI.bad
theorem HI.opt (o : Option α) : HI (T.opt o) := by cases o <;> exact fun h => rfl
theorem HI.onN {a : Option α} {t : T γ} {k : α → T γ} (p : HI t) (q : ∀ b, HI (k b)) : HI (onN a t k) := by
  cases a with
  | none => exact p
  | some b => exact q b
theorem HI.go {k : σ → T γ} (q : ∀ s, HI (k s)) : ∀ j, HI (Jn.go k j) := fun j => by
  cases j with
  | nx s => exact q s
  | out c => exact HI.pure c
theorem HI.calm {t : T α} (p : HI t) : HI (T.calm t) := by
  refine HI.of (r := (t []).calm) fun h => ?_
  show (t h).calm = _
  rw [p h]
  cases t [] <;> rfl
theorem HI.compC {c : α → T Bool} {f : α → T β} (p : ∀ a, HI (c a)) (q : ∀ a, HI (f a)) : ∀ l, HI (compC c f l)
  | [] => HI.pure _
  | a :: l => HI.bind (p a).calm fun b => HI.ite (HI.bind (q a).calm fun y => HI.bind (HI.compC p q l) fun z => HI.pure _) (HI.compC p q l)
theorem HI.compT {c : α → T Bool} {f : α → T β} {l : List α} (p : ∀ a, HI (c a)) (q : ∀ a, HI (f a)) : HI (compT l c f) := HI.guard (HI.compC p q l)
theorem HI.compP (l : List α) (c : α → Bool) (f : α → β) : HI (compP l c f) := HI.guard (HI.pure _)
theorem HI.compM (l : List α) (f : α → β) : HI (compM l f) := HI.guard (HI.pure _)
theorem HI.for0 {body : α → σ → T σ} (p : ∀ a s, HI (body a s)) : ∀ l s, HI (forT0 body l s)
  | [], s => HI.pure _
  | a :: l, s => HI.bind (p a s) fun s => HI.for0 p l s
theorem HI.for_ {body : α → σ → T (Lp σ γ)} (p : ∀ a s, HI (body a s)) : ∀ l s, HI (forT body l s)
  | [], s => HI.pure _
  | a :: l, s => HI.bind (p a s) fun r => by
    cases r with
    | nx s => exact HI.for_ p l s
    | bk s => exact HI.pure _
    | out c => exact HI.pure _
theorem HI.while0 {c : σ → T Bool} {body : σ → T σ} (q : ∀ s, HI (c s)) (p : ∀ s, HI (body s)) : ∀ n s, HI (whileT0 c body n s)
  | 0, s => HI.bad
  | n + 1, s => HI.bind (q s) fun b => HI.ite (HI.bind (p s) fun s => HI.while0 q p n s) (HI.pure _)
theorem HI.while_ {c : σ → T Bool} {body : σ → T (Lp σ γ)} (q : ∀ s, HI (c s)) (p : ∀ s, HI (body s)) : ∀ n s, HI (whileT c body n s)
  | 0, s => HI.bad
  | n + 1, s => HI.bind (q s) fun b => HI.ite (HI.bind (p s) fun r => by
    cases r with
    | nx s => exact HI.while_ q p n s
    | bk s => exact HI.pure _
    | out c => exact HI.pure _) (HI.pure _)
theorem HI.tryT {t : T γ} {hd : XV → T γ} (p : HI t) (q : ∀ x, HI (hd x)) : HI (tryT t hd) := by
  refine HI.of (r := match t [] with | .exc x h => hd x [] | o => o) fun h => ?_
  unfold U.tryT
  rw [p h]
  cases t [] with
  | ok a h1 => rfl
  | exc x h1 => exact q x h
  | bad => rfl
theorem HI.hdT {o : Option Bool} {a b : T γ} (p : HI a) (q : HI b) : HI (hdT o a b) := by
  cases o with
  | none => exact HI.bad
  | some c => cases c <;> assumption
theorem HI.cast (t : Ty α) (d : D) : HI (cast t d) := by
  unfold HI U.cast
  cases t.dec d <;> exact fun h => rfl
theorem hi_orBad {o : Option α} {k : α → LH → Out β} (q : ∀ a h, k a h = lf (k a []) h) (h : LH) : orBad o (fun a => k a h) = lf (orBad o fun a => k a []) h := by
  cases o with
  | none => rfl
  | some a => exact q a h
theorem HI.dy {t : Ty α} {f : LH → Out SV} (q : ∀ h, f h = lf (f []) h) : HI (fun h => dy t (f h)) := fun h => by
  show U.dy t (f h) = lf (U.dy t (f [])) h
  rw [q h]
  cases f [] with
  | ok s h1 =>
    cases s with
    | val d => show (match t.dec d with | some a => Out.ok a h | none => .bad) = lf (match t.dec d with | some a => Out.ok a h1 | none => .bad) h; cases t.dec d <;> rfl
    | _ => rfl
  | exc x h1 => rfl
  | bad => rfl
theorem hi_ix (d : D) (i : Int) (h : LH) : gIxA (.val d) (v tI i) h = lf (gIxA (.val d) (v tI i) []) h := by
  show orNext _ _ (gIx _ _ h) = lf (orNext _ _ (gIx _ _ [])) h
  show gIx _ _ h = lf (gIx _ _ []) h
  unfold gIx
  cases d <;> first | rfl | skip
  · rename_i s
    show iff _ _ = lf (iff _ _) h
    unfold U.iff
    split
    · show orBad (atI s.cps.toList i) _ = lf (orBad (atI s.cps.toList i) _) h
      cases atI s.cps.toList i <;> rfl
    · rfl
  · rename_i l
    show orBad (atI l i) _ = lf (orBad (atI l i) _) h
    cases atI l i <;> rfl
  · rename_i l
    show orBad (atI l i) _ = lf (orBad (atI l i) _) h
    cases atI l i <;> rfl
theorem HI.ixD (d : D) (i : Int) : HI (ixD d i) := HI.dy fun h => hi_ix d i h
theorem HI.ixS (s : Str) (i : Int) : HI (ixS s i) := HI.dy fun h => hi_ix (.str s) i h
theorem HI.lenD (d : D) : HI (lenD d) := HI.dy fun h => by
  show orBad (lenS (.val d)) _ = lf (orBad (lenS (.val d)) _) h
  cases lenS (.val d) <;> rfl
theorem HI.slD (d : D) (lo hi : Option Int) : HI (fun h => U.dy tD (gSl (.val d) lo hi h)) := HI.dy fun h => by
  cases d <;> first | rfl | skip
  rename_i s
  show iff _ _ = lf (iff _ _) h
  unfold U.iff
  split <;> rfl
theorem HI.eqD (a b : D) : HI (eqD a b) := HI.guard (HI.pure _)
theorem HI.neD (a b : D) : HI (neD a b) := HI.guard (HI.pure _)
theorem HI.inD (n : Bool) (t : Ty α) (a : D) (l : List α) : HI (inD n t a l) := HI.guard (HI.pure _)
theorem HI.countD (t : Ty α) (a : D) (l : List α) : HI (countD t a l) := HI.guard (HI.pure _)
theorem HI.sortT (t : Ty α) (l : List α) : HI (sortT t l) := HI.guard (HI.pure _)
theorem HI.ixT (l : List α) (i : Int) : HI (ixT l i) := HI.opt _
theorem HI.lenT (s : Str) : HI (lenT s) := HI.guard (HI.pure _)
theorem HI.slS (s : Str) (lo hi : Option Int) : HI (slS s lo hi) := HI.guard (HI.pure _)
theorem HI.ltT (t : Ty α) (u : Ty β) (a : α) (b : β) : HI (ltT t u a b) := HI.guard (HI.pure _)
theorem HI.leT (t : Ty α) (u : Ty β) (a : α) (b : β) : HI (leT t u a b) := HI.guard (HI.pure _)
theorem HI.gtT (t : Ty α) (u : Ty β) (a : α) (b : β) : HI (gtT t u a b) := HI.guard (HI.pure _)
theorem HI.geT (t : Ty α) (u : Ty β) (a : α) (b : β) : HI (geT t u a b) := HI.guard (HI.pure _)
theorem HI.modT (i j : Int) : HI (modT i j) := HI.guard (HI.pure _)
theorem HI.mulT (i j : Int) : HI (mulT i j) := HI.guard (HI.pure _)
theorem HI.catT (a b : List α) : HI (catT a b) := HI.guard (HI.pure _)
theorem HI.catS (a b : Str) : HI (catS a b) := HI.guard (HI.pure _)
theorem HI.pushT (a : List α) (b : α) : HI (pushT a b) := HI.guard (HI.pure _)
theorem HI.intT (s : Str) : HI (intT s) := HI.bind (HI.opt _) fun _ => HI.guard (HI.pure _)
theorem HI.strT (i : Int) : HI (strT i) := HI.guard (HI.pure _)
theorem HI.splitT (a b : Str) : HI (splitT a b) := HI.guard (HI.pure _)
theorem HI.joinT (a : Str) (l : List Str) : HI (joinT a l) := HI.guard (HI.pure _)
theorem HI.rngT (n : Int) : HI (rngT n) := HI.guard (HI.pure _)
theorem HI.rng2T (m n : Int) : HI (rng2T m n) := HI.guard (HI.pure _)
theorem HI.isET (tab : Str → Str → Option Bool) (C : Str) (x : XV) : HI (isET tab C x) := HI.guard (HI.opt _)
theorem HI.addD (a b : D) : HI (addD a b) := HI.dy fun h => by
  unfold gAdd
  cases a <;> cases b <;> first
    | rfl
    | (show iff _ _ = lf (iff _ _) h; unfold U.iff; split <;> rfl)
/-- what a closed reckoning without the heap gives -/
def chk (o : Out α) (p : α → Bool) : Bool := match o with
  | .ok a [] => p a
  | _ => false
theorem HI.got {t : T α} {p : α → Bool} (q : HI t) (c : chk (t []) p = true) : ∃ a, t = T.pure a ∧ p a = true := by
  cases e : t [] with
  | ok a h =>
    refine ⟨a, funext fun h' => ?_, ?_⟩
    · rw [q h', e]; rfl
    · rw [e] at c
      cases h with
      | nil => exact c
      | cons => cases c
  | exc x h => rw [e] at c; cases c
  | bad => rw [e] at c; cases c
theorem HI.is {t : T α} [DecidableEq α] {a : α} (q : HI t) (c : chk (t []) (fun b => decide (b = a)) = true) : t = T.pure a := by
  obtain ⟨b, e, z⟩ := q.got c
  rw [e, of_decide_eq_true z]
end
end U
/-! Y7: types whose equality is equality; comprehensions that end; sorting. -/
namespace U
open PySem PySem.Spec PyProof.Rows L2 PySem.W
theorem mbm {α : Type} (l : List α) : ∀ z ∈ l, z ∈ l := fun _ h => h
section
variable {α β γ : Type}
/-- == is equality -/
structure Gd [DecidableEq α] (t : Ty α) : Prop where
  eq : ∀ a b, PyData.eqv (t.enc a) (t.enc b) = decide (a = b)
structure GdL [DecidableEq α] (t : TyL α) : Prop where
  eq : ∀ a b, PyData.eqvAll (t.encL a) (t.encL b) = decide (a = b)
theorem gdS : Gd tS := ⟨fun a b => rfl⟩
theorem gdI : Gd tI := ⟨fun a b => rfl⟩
theorem gdB : Gd tB := ⟨fun a b => by cases a <;> cases b <;> rfl⟩
theorem gdOne [DecidableEq α] {t : Ty α} (h : Gd t) : GdL (oneT t) := ⟨fun a b => by
  show PyData.eqvAll [t.enc a] [t.enc b] = _
  rw [PyData.eqvAll, PyData.eqvAll, h.eq, Bool.and_true]⟩
theorem gdCons [DecidableEq α] [DecidableEq β] {t : Ty α} {u : TyL β} (h : Gd t) (k : GdL u) : GdL (consT t u) := ⟨fun a b => by
  show PyData.eqvAll (t.enc a.1 :: u.encL a.2) (t.enc b.1 :: u.encL b.2) = _
  rw [PyData.eqvAll, h.eq, k.eq, ← Bool.decide_and]
  exact decide_eq_decide.mpr ⟨fun ⟨p, q⟩ => Prod.ext p q, fun p => ⟨congrArg _ p, congrArg _ p⟩⟩⟩
theorem gdT [DecidableEq α] {u : TyL α} (k : GdL u) : Gd (tT u) := ⟨fun a b => by
  show PyData.eqv (.tuple (u.encL a)) (.tuple (u.encL b)) = _
  rw [PyData.eqv, k.eq]⟩
theorem gdAll [DecidableEq α] {t : Ty α} (h : Gd t) : ∀ l m : List α, PyData.eqvAll (l.map t.enc) (m.map t.enc) = decide (l = m)
  | [], [] => rfl
  | [], _ :: _ => by rw [decide_eq_false (by simp)]; rfl
  | _ :: _, [] => by rw [decide_eq_false (by simp)]; rfl
  | a :: l, b :: m => by
    rw [List.map_cons, List.map_cons, PyData.eqvAll, h.eq, gdAll h l m, ← Bool.decide_and]
    exact decide_eq_decide.mpr ⟨fun ⟨p, q⟩ => by rw [p, q], fun p => by cases p; exact ⟨rfl, rfl⟩⟩
theorem gdU [DecidableEq α] {t : Ty α} (h : Gd t) : Gd (tU t) := ⟨fun a b => by
  show PyData.eqv (.tuple (a.map t.enc)) (.tuple (b.map t.enc)) = _
  rw [PyData.eqv, gdAll h]⟩
theorem gdL [DecidableEq α] {t : Ty α} (h : Gd t) : Gd (tL t) := ⟨fun a b => by
  show PyData.eqv (.list (a.map t.enc)) (.list (b.map t.enc)) = _
  rw [PyData.eqv, gdAll h]⟩
theorem eqX_good [DecidableEq α] {t : Ty α} (g : Gd t) (a b : α) : eqX t t a b = decide (a = b) := g.eq a b
theorem inX_good [DecidableEq α] {t : Ty α} (g : Gd t) (a : α) (l : List α) : inX t t a l = decide (a ∈ l) := by
  unfold inX
  induction l with
  | nil => rfl
  | cons b l ih =>
    rw [List.any_cons, ih, g.eq, ← Bool.decide_or]
    exact decide_eq_decide.mpr ⟨fun p => p.elim (fun p => p ▸ List.mem_cons_self) (fun p => List.mem_cons_of_mem _ p), fun p => (List.mem_cons.mp p).imp Eq.symm id⟩
theorem count_good [DecidableEq α] {t : Ty α} (g : Gd t) (a : α) (l : List α) : (l.countP fun z => PyData.eqv (t.enc z) (t.enc a)) = l.count a := by
  unfold List.count
  exact congrArg (fun p => List.countP p l) (funext fun z => by rw [g.eq]; rfl)
/-- alike whatever they are -/
def Alk (t : Ty α) : Prop := ∀ a b, alike (t.enc a) (t.enc b) = true
def AlkL (t : TyL α) : Prop := ∀ a b, alikeAll (t.encL a) (t.encL b) = true
theorem akS : Alk tS := fun a b => rfl
theorem akI : Alk tI := fun a b => rfl
theorem akOne {t : Ty α} (h : Alk t) : AlkL (oneT t) := fun a b => by
  show alikeAll [t.enc a] [t.enc b] = true
  rw [alikeAll, h a b]; rfl
theorem akCons {t : Ty α} {u : TyL β} (h : Alk t) (k : AlkL u) : AlkL (consT t u) := fun a b => by
  show alikeAll (t.enc a.1 :: u.encL a.2) (t.enc b.1 :: u.encL b.2) = true
  rw [alikeAll, h, k]; rfl
theorem akT {u : TyL α} (k : AlkL u) : Alk (tT u) := fun a b => by
  show alike (.tuple (u.encL a)) (.tuple (u.encL b)) = true
  rw [alike]; exact k a b
theorem akAll {t : Ty α} (h : Alk t) : ∀ l m : List α, alikeAll (l.map t.enc) (m.map t.enc) = true
  | [], m => by cases m <;> rfl
  | _ :: _, [] => rfl
  | a :: l, b :: m => by rw [List.map_cons, List.map_cons, alikeAll, h, akAll h l m]; rfl
theorem akU {t : Ty α} (h : Alk t) : Alk (tU t) := fun a b => by
  show alike (.tuple (a.map t.enc)) (.tuple (b.map t.enc)) = true
  rw [alike]; exact akAll h a b
/-! ### sorted -/
def leT' (t : Ty α) : α → α → Bool := dataLe false t.enc
theorem sortB_tup {u : TyL α} (h : AlkL u) (hn : u.n < 90) (ne : ∀ a, u.encL a ≠ []) (l : List α) : sortB (l.map (tT u).enc) = true := by
  unfold sortB
  rw [Bool.and_eq_true, Bool.and_eq_true, Bool.or_eq_true]
  refine ⟨⟨?_, .inl ?_⟩, ?_⟩
  · rw [List.all_eq_true]
    intro d hd
    rw [List.all_eq_true]
    intro e he
    obtain ⟨a, _, rfl⟩ := List.mem_map.mp hd
    obtain ⟨b, _, rfl⟩ := List.mem_map.mp he
    exact akT h a b
  · rw [List.all_eq_true]
    intro d hd
    obtain ⟨a, _, rfl⟩ := List.mem_map.mp hd
    show (match PyData.tuple (u.encL a) with | .tuple (_ :: _) => true | _ => false) = true
    cases e : u.encL a with
    | nil => exact absurd e (ne a)
    | cons x r => rfl
  · rw [List.all_eq_true]
    intro d hd
    obtain ⟨a, _, rfl⟩ := List.mem_map.mp hd
    have := ((tT u).pl (by show u.n + 1 < 100; omega) a).2
    have e : (tT u).n = u.n + 1 := rfl
    exact decide_eq_true (by omega)
theorem sortB_str (l : List Str) : sortB (l.map tS.enc) = true := by
  unfold sortB
  rw [Bool.and_eq_true, Bool.and_eq_true, Bool.or_eq_true]
  refine ⟨⟨?_, .inr ?_⟩, ?_⟩
  · rw [List.all_eq_true]
    intro d hd
    rw [List.all_eq_true]
    intro e he
    obtain ⟨a, _, rfl⟩ := List.mem_map.mp hd
    obtain ⟨b, _, rfl⟩ := List.mem_map.mp he
    rfl
  · rw [List.all_eq_true]
    intro d hd
    obtain ⟨a, _, rfl⟩ := List.mem_map.mp hd
    rfl
  · rw [List.all_eq_true]
    intro d hd
    obtain ⟨a, _, rfl⟩ := List.mem_map.mp hd
    rfl
def srt (t : Ty α) (l : List α) : List α := l.mergeSort (leT' t)
theorem sortT_ok {t : Ty α} {l : List α} (h : sortB (l.map t.enc) = true) : sortT t l = T.pure (srt t l) := T.guard_pos h _
theorem srt_perm (t : Ty α) (l : List α) : (srt t l).Perm l := List.mergeSort_perm l _
theorem mem_srt {t : Ty α} {l : List α} {a : α} : a ∈ srt t l ↔ a ∈ l := (srt_perm t l).mem_iff
theorem srt_len (t : Ty α) (l : List α) : (srt t l).length = l.length := (srt_perm t l).length_eq
/-! ### comprehensions -/
theorem compC_ok {c : α → T Bool} {f : α → T β} {c' : α → Bool} {f' : α → β} : ∀ {l : List α}, (∀ a ∈ l, c a = T.pure (c' a)) → (∀ a ∈ l, c' a = true → f a = T.pure (f' a)) → compC c f l = T.pure ((l.filter c').map f')
  | [], _, _ => rfl
  | a :: l, p, q => by
    unfold compC
    rw [p a List.mem_cons_self, T.calm_pure, T.pure_bind, compC_ok (fun b hb => p b (List.mem_cons_of_mem _ hb)) (fun b hb => q b (List.mem_cons_of_mem _ hb))]
    cases e : c' a with
    | true => rw [if_pos rfl, q a List.mem_cons_self e, List.filter_cons_of_pos e]; rfl
    | false => rw [if_neg (by exact Bool.false_ne_true), List.filter_cons_of_neg (by rw [e]; exact Bool.false_ne_true)]
theorem compT_ok {c : α → T Bool} {f : α → T β} {c' : α → Bool} {f' : α → β} {l : List α} (hl : l.length ≤ 1000000) (p : ∀ a ∈ l, c a = T.pure (c' a)) (q : ∀ a ∈ l, c' a = true → f a = T.pure (f' a)) : compT l c f = T.pure ((l.filter c').map f') :=
  (T.guard_pos (by have : sizeLine = 16777216 := rfl; omega) _).trans (compC_ok p q)
theorem filter_t (l : List α) : l.filter (fun _ => true) = l := List.filter_eq_self.mpr fun _ _ => rfl
theorem compT_map {f : α → T β} {f' : α → β} {l : List α} (hl : l.length ≤ 1000000) (q : ∀ a ∈ l, f a = T.pure (f' a)) : compT l (fun _ => T.pure true) f = T.pure (l.map f') := by
  rw [compT_ok (c' := fun _ => true) hl (fun _ _ => rfl) fun a ha _ => q a ha, filter_t]
theorem compM_ok {f : α → β} {l : List α} (hl : l.length ≤ 1000000) : compM l f = T.pure (l.map f) := T.guard_pos (by have : sizeLine = 16777216 := rfl; omega) _
theorem compP_ok {c : α → Bool} {f : α → β} {l : List α} (hl : l.length ≤ 1000000) : compP l c f = T.pure ((l.filter c).map f) := T.guard_pos (by have : sizeLine = 16777216 := rfl; omega) _
theorem catT_ok {a b : List α} (h : a.length + b.length ≤ 1000000) : catT a b = T.pure (a ++ b) := T.guard_pos (by have : sizeLine = 16777216 := rfl; omega) _
theorem pushT_ok {a : List α} {b : α} (h : a.length < 1000000) : pushT a b = T.pure (a ++ [b]) := T.guard_pos (by have : sizeLine = 16777216 := rfl; omega) _
theorem catS_ok {a b : Str} (h : a.length + b.length ≤ 1000000) : catS a b = T.pure (a ++ b) := T.guard_pos (by have : sizeLine = 16777216 := rfl; omega) _
theorem ixT_nat {l : List α} {i : Nat} (h : i < l.length) : ixT l (i : Int) = T.pure l[i] := by
  unfold ixT
  rw [atI_nat l i h]; rfl
theorem rngT_ok {n : Nat} (h : n ≤ 1000000) : rngT (n : Int) = T.pure ((List.range n).map fun i => ((i : Nat) : Int)) := by
  unfold rngT
  rw [T.guard_pos ((okRb_eq _).mpr (by unfold okR; omega))]
  unfold rangeL
  rw [Int.toNat_natCast]
  congr 1
  exact List.map_congr_left fun i _ => by rw [Int.zero_add]
theorem cast_ok {t : Ty α} {d : D} {a : α} (h : t.dec d = some a) : cast t d = T.pure a := by
  unfold cast
  rw [h]; rfl
theorem decAll_D (l : List D) : decAll tD l = some l := by
  induction l with
  | nil => rfl
  | cons a l ih => unfold decAll; rw [ih]; rfl
theorem cast_tup (l : List D) : cast (tU tD) (.tuple l) = T.pure l := cast_ok (decAll_D l)
theorem all_true {l : List α} {f : α → Bool} (h : ∀ a ∈ l, f a = true) : (l.map f).all id = true := by
  rw [List.all_map, List.all_eq_true]
  exact h
end
end U
namespace Q
open PySem PySem.Spec PyProof.Rows L2 U
def exRows : List ExRow := [("BadPackages", "BadPackages", true), ("BadPackages", "BadProject", false), ("BadPackages", "BadLock", false), ("BadPackages", "ShelfError", true), ("BadProject", "BadPackages", false), ("BadProject", "BadProject", true), ("BadProject", "BadLock", false), ("BadProject", "ShelfError", true), ("BadLock", "BadPackages", false), ("BadLock", "BadProject", false), ("BadLock", "BadLock", true), ("BadLock", "ShelfError", true)]
def b_number_of : SF := (sSeq (sIf (tOr' (tNot' (tOf (eChain gLe gLe (eC (.int 1)) (eArgs gLen (aCons (eVar 0) aNil)) (eC (.int 3))))) (tNot' (tTru (eArgs gAll (aCons (eFz (fLc (iStr' (eVar 0)) (tgName 1) tYes' (eBin (gIn false) (eVar 1) (eC (.str "0123456789"))) [1])) aNil))))) (sRet (eC .none)) sNil)
    (sSeq (sIf (tAnd' (tOf (eBin gGt (eArgs gLen (aCons (eVar 0) aNil)) (eC (.int 1)))) (tOf (eBin gEq (eBin gIxA (eVar 0) (eC (.int 0))) (eC (.str "0"))))) (sRet (eC .none)) sNil)
    (sRet (eArgs gInt (aCons (eVar 0) aNil)))))
def run_number_of : RF := runOf 2 b_number_of
theorem st_number_of {a0 : SV} {h : LH} : run_number_of [a0] h = fin (b_number_of [some a0, none] h) := run_fin rfl
def b_next_major : SF := (sSeq (sTg (tgTup 3 (tgsCons (tgName 1) (tgsCons (tgName 2) (tgsCons (tgName 3) tgsNil)))) (eVar 0))
    (sSeq (sIf (tOf (eBin gGt (eVar 1) (eC (.int 0)))) (sRet (eArgs gTup (aCons (eBin gAdd (eVar 1) (eC (.int 1))) (aCons (eC (.int 0)) (aCons (eC (.int 0)) aNil))))) sNil)
    (sSeq (sIf (tOf (eBin gGt (eVar 2) (eC (.int 0)))) (sRet (eArgs gTup (aCons (eC (.int 0)) (aCons (eBin gAdd (eVar 2) (eC (.int 1))) (aCons (eC (.int 0)) aNil))))) sNil)
    (sRet (eArgs gTup (aCons (eC (.int 0)) (aCons (eC (.int 0)) (aCons (eBin gAdd (eVar 3) (eC (.int 1))) aNil))))))))
def run_next_major : RF := runOf 4 b_next_major
theorem st_next_major {a0 : SV} {h : LH} : run_next_major [a0] h = fin (b_next_major [some a0, none, none, none] h) := run_fin rfl
def b_is_name : SF := (sSeq (sIf (tOr' (tNot' (tTru (eIsi "str" (eVar 0)))) (tNot' (tOf (eChain gLe gLe (eC (.int 1)) (eArgs gLen (aCons (eVar 0) aNil)) (eC (.int 12)))))) (sRet (eC (.bool false))) sNil)
    (sRet (eAndV (eBin (gIn false) (eBin gIxA (eVar 0) (eC (.int 0))) (eC (.str "abcdefghijklmnopqrstuvwxyz"))) (eArgs gAll (aCons (eFz (fLc (iStr' (eVar 0)) (tgName 1) tYes' (eBin (gIn false) (eVar 1) (eC (.str "abcdefghijklmnopqrstuvwxyz0123456789-"))) [1])) aNil)))))
def run_is_name : RF := runOf 2 b_is_name
theorem st_is_name {a0 : SV} {h : LH} : run_is_name [a0] h = fin (b_is_name [some a0, none] h) := run_fin rfl
def b_are_different : SF := (sRet (eArgs gAll (aCons (eFz (fLc (iSeq (eVar 0)) (tgName 1) tYes' (eBin gEq (eL1 gCount (eVar 0) (eVar 1)) (eC (.int 1))) [1])) aNil)))
def run_are_different : RF := runOf 2 b_are_different
theorem st_are_different {a0 : SV} {h : LH} : run_are_different [a0] h = fin (b_are_different [some a0, none] h) := run_fin rfl
def l_find_package_1 : SF := (sIf (tOf (eBin gEq (eSl (eVar 3) oNone (oSome (eC (.int 2)))) (eArgs gTup (aCons (eVar 1) (aCons (eVar 2) aNil))))) (sRet (eVar 3)) sNil)
def b_find_package : SF := (sSeq (sFor (iSeq (eVar 0)) (tgName 3) l_find_package_1)
    (sRet (eC .none)))
def run_find_package : RF := runOf 4 b_find_package
theorem st_find_package {a0 a1 a2 : SV} {h : LH} : run_find_package [a0, a1, a2] h = fin (b_find_package [some a0, some a1, some a2, none] h) := run_fin rfl
def b_law_cell : SF := (sSeq (sIf (tOf (eBin gLt (eVar 1) (eArgs gLen (aCons (eVar 0) aNil)))) (sRet (eArgs gInt (aCons (eBin gIxS (eVar 0) (eVar 1)) aNil))) sNil)
    (sRet (eC (.int 0))))
def run_law_cell : RF := runOf 2 b_law_cell
theorem st_law_cell {a0 a1 : SV} {h : LH} : run_law_cell [a0, a1] h = fin (b_law_cell [some a0, some a1] h) := run_fin rfl
def l_law_draws_1 : SF := (sIf (tAnd' (tOf (eBin gLt (eVar 5) (eVar 1))) (tTru (eVar 3))) (sSeq (sApp 4 (eBin gMod (eVar 2) (eC (.int 60))))
    (sSet 2 (eBin gDiv (eVar 2) (eC (.int 60))))) (sIf (tOf (eBin gLt (eVar 5) (eVar 1))) (sSeq (sSet 6 (eBin gMod (eBin gAdd (eBin gAdd (eBin gMul (eArgs gInt (aCons (eVar 2) aNil)) (eC (.int 48271))) (eBin gMul (eVar 5) (eC (.int 69621)))) (eC (.int 11))) (eC (.int 2147483647))))
    (sSeq (sSet 6 (eBin gMod (eBin gAdd (eBin gAdd (eBin gMul (eArgs gInt (aCons (eVar 6) aNil)) (eArgs gInt (aCons (eVar 6) aNil))) (eBin gMul (eVar 5) (eC (.int 7919)))) (eC (.int 5))) (eC (.int 998244353))))
    (sApp 4 (eBin gMod (eArgs gInt (aCons (eVar 6) aNil)) (eC (.int 60)))))) sNil))
def b_law_draws : SF := (sSeq (sSet 2 (eArgs gAbs (aCons (eArgs gInt (aCons (eVar 0) aNil)) aNil)))
    (sSeq (sSet 3 (eBin gGe (eVar 2) (eBin gPow (eC (.int 10)) (eC (.int 18)))))
    (sSeq (sOwn 4 (eArgsF aNil))
    (sSeq (sFor (iRange1 (aCons (eC (.int 60)) aNil)) (tgName 5) l_law_draws_1)
    (sFz 4 (sRet (eVar 4)))))))
def run_law_draws : RF := runOf 7 b_law_draws
theorem st_law_draws {a0 a1 : SV} {h : LH} : run_law_draws [a0, a1] h = fin (b_law_draws [some a0, some a1, none, none, none, none, none] h) := run_fin rfl
def b_law_next : SF := (sSeq (sSet 2 (eBin gIxA (eVar 0) (eC (.int 0))))
    (sSeq (sSet 3 (eBin gIxA (eVar 0) (eC (.int 1))))
    (sSeq (sSet 4 (eBin gMod (eArgs gInt (aCons (eBin gIxA (eVar 2) (eBin gMod (eArgs gInt (aCons (eBin gIxA (eVar 3) (eC (.int 0))) aNil)) (eArgs gLen (aCons (eVar 2) aNil)))) aNil)) (eVar 1)))
    (sSeq (sSub (eVar 3) (eC (.int 0)) (eBin gAdd (eBin gIxA (eVar 3) (eC (.int 0))) (eC (.int 1))))
    (sRet (eVar 4))))))
def run_law_next : RF := runOf 5 b_law_next
theorem st_law_next {a0 a1 : SV} {h : LH} : run_law_next [a0, a1] h = fin (b_law_next [some a0, some a1, none, none, none] h) := run_fin rfl
def b_law_is_integer : SF := (sRet (eAndV (eIsi "int" (eVar 0)) (eNotV (eIsi "bool" (eVar 0)))))
def run_law_is_integer : RF := runOf 1 b_law_is_integer
theorem st_law_is_integer {a0 : SV} {h : LH} : run_law_is_integer [a0] h = fin (b_law_is_integer [some a0] h) := run_fin rfl
def b_law_numbers : SF := (sRet (eFz (fLc (iSeq (eS1 gSplit (eVar 0) (eC (.str ".")))) (tgName 1) tYes' (eArgs gInt (aCons (eVar 1) aNil)) [1])))
def run_law_numbers : RF := runOf 2 b_law_numbers
theorem st_law_numbers {a0 : SV} {h : LH} : run_law_numbers [a0] h = fin (b_law_numbers [some a0, none] h) := run_fin rfl
def l_law_find_1 : SF := (sIf (tAnd' (tOf (eBin gEq (eBin gIxA (eVar 3) (eC (.int 0))) (eVar 1))) (tOf (eBin gEq (eBin gIxA (eVar 3) (eC (.int 1))) (eVar 2)))) (sRet (eVar 3)) sNil)
def b_law_find : SF := (sSeq (sFor (iSeq (eVar 0)) (tgName 3) l_law_find_1)
    (sRet (eC .none)))
def run_law_find : RF := runOf 4 b_law_find
theorem st_law_find {a0 a1 a2 : SV} {h : LH} : run_law_find [a0, a1, a2] h = fin (b_law_find [some a0, some a1, some a2, none] h) := run_fin rfl
def b_version_numbers : SF := (sSeq (sIf (tNot' (tTru (eIsi "str" (eVar 0)))) (sRet (eC .none)) sNil)
    (sSeq (sSet 1 (eS1 gSplit (eVar 0) (eC (.str "."))))
    (sSeq (sIf (tOf (eBin gNe (eArgs gLen (aCons (eVar 1) aNil)) (eC (.int 3)))) (sRet (eC .none)) sNil)
    (sSeq (sSet 2 (eArgs gTuple (aCons (eFz (fLc (iSeq (eVar 1)) (tgName 3) tYes' (eArgs (nArgs 1 (gCall run_number_of)) (aCons (eVar 3) aNil)) [3])) aNil)))
    (sSeq (sIf (tOf (eBin (gIn false) (eC .none) (eVar 2))) (sRet (eC .none)) sNil)
    (sRet (eVar 2)))))))
def run_version_numbers : RF := runOf 4 b_version_numbers
theorem st_version_numbers {a0 : SV} {h : LH} : run_version_numbers [a0] h = fin (b_version_numbers [some a0, none, none, none] h) := run_fin rfl
def l_law_stream_1 : SF := (sExt 3 (eArgs (nArgs 2 (gPure run_law_draws)) (aCons (eArgs (nArgs 2 (gPure run_law_cell)) (aCons (eVar 0) (aCons (eBin gAdd (eVar 1) (eVar 4)) aNil))) (aCons (eC (.int 12)) aNil))))
def b_law_stream : SF := (sSeq (sOwn 3 (eArgsF aNil))
    (sSeq (sFor (iRange1 (aCons (eVar 2) aNil)) (tgName 4) l_law_stream_1)
    (sFz 3 (sRet (eArgs gLstH (aCons (eVar 3) (aCons (eArgs gLstH (aCons (eC (.int 0)) aNil)) aNil)))))))
def run_law_stream : RF := runOf 5 b_law_stream
theorem st_law_stream {a0 a1 a2 : SV} {h : LH} : run_law_stream [a0, a1, a2] h = fin (b_law_stream [some a0, some a1, some a2, none, none] h) := run_fin rfl
def l_law_same_1 (self : RF) : SF := (sIf (tNot' (tTru (eArgs (nArgs 2 (gPure self)) (aCons (eBin gIxA (eVar 0) (eVar 2)) (aCons (eBin gIxA (eVar 1) (eVar 2)) aNil))))) (sRet (eC (.bool false))) sNil)
def b_law_same (self : RF) : SF := (sSeq (sIf (tOf (eBin (gIs false) (eVar 1) (eC .none))) (sRet (eBin (gIs false) (eVar 0) (eC .none))) sNil)
    (sSeq (sIf (tTru (eIsi "bool" (eVar 1))) (sRet (eAndV (eIsi "bool" (eVar 0)) (eBin gEq (eVar 0) (eVar 1)))) sNil)
    (sSeq (sIf (tTru (eIsi "int" (eVar 1))) (sRet (eAndV (eArgs (nArgs 1 (gPure run_law_is_integer)) (aCons (eVar 0) aNil)) (eBin gEq (eVar 0) (eVar 1)))) sNil)
    (sSeq (sIf (tTru (eIsi "str" (eVar 1))) (sRet (eAndV (eIsi "str" (eVar 0)) (eBin gEq (eVar 0) (eVar 1)))) sNil)
    (sSeq (sIf (tAnd' (tTru (eIsi "tuple" (eVar 1))) (tNot' (tTru (eIsi "tuple" (eVar 0))))) (sRet (eC (.bool false))) sNil)
    (sSeq (sIf (tAnd' (tTru (eIsi "list" (eVar 1))) (tNot' (tTru (eIsi "list" (eVar 0))))) (sRet (eC (.bool false))) sNil)
    (sSeq (sIf (tOf (eBin gNe (eArgs gLen (aCons (eVar 0) aNil)) (eArgs gLen (aCons (eVar 1) aNil)))) (sRet (eC (.bool false))) sNil)
    (sSeq (sFor (iRange1 (aCons (eArgs gLen (aCons (eVar 1) aNil)) aNil)) (tgName 2) (l_law_same_1 self))
    (sRet (eC (.bool true)))))))))))
def run_law_same : Nat → RF
  | 0 => fun _ _ => .bad
  | n + 1 => runOf 3 (b_law_same (run_law_same n))
theorem st_law_same {n : Nat} {a0 a1 : SV} {h : LH} : run_law_same (n + 1) [a0, a1] h = fin (b_law_same (run_law_same n) [some a0, some a1, none] h) := run_fin rfl
def b_law_version : SF := (sRet (eBin gIxA (eArgs gLst (aCons (eC (.str "1.0.0")) (aCons (eC (.str "1.2.0")) (aCons (eC (.str "2.0.0")) (aCons (eC (.str "0.3.1")) (aCons (eC (.str "0.0.4")) (aCons (eC (.str "1.10.0")) aNil))))))) (eArgs (nArgs 2 (gCall run_law_next)) (aCons (eVar 0) (aCons (eC (.int 6)) aNil)))))
def run_law_version : RF := runOf 1 b_law_version
theorem st_law_version {a0 : SV} {h : LH} : run_law_version [a0] h = fin (b_law_version [some a0] h) := run_fin rfl
def b_law_fits_one : SF := (sSeq (sIf (tOf (eBin gEq (eVar 1) (eC (.str "*")))) (sRet (eC (.bool true))) sNil)
    (sSeq (sIf (tOf (eBin gEq (eSl (eVar 1) oNone (oSome (eC (.int 2)))) (eC (.str ">=")))) (sSeq (sSet 2 (eS1 gSplit (eSl (eVar 1) (oSome (eC (.int 2))) oNone) (eC (.str " <"))))
    (sRet (eAndV (eBin gLe (eArgs (nArgs 1 (gCall run_law_numbers)) (aCons (eBin gIxA (eVar 2) (eC (.int 0))) aNil)) (eVar 0)) (eBin gLt (eVar 0) (eArgs (nArgs 1 (gCall run_law_numbers)) (aCons (eBin gIxA (eVar 2) (eC (.int 1))) aNil)))))) sNil)
    (sSeq (sIf (tOf (eBin (gIn true) (eBin gIxA (eVar 1) (eC (.int 0))) (eArgs gLst (aCons (eC (.str "^")) (aCons (eC (.str "~")) aNil))))) (sRet (eBin gEq (eVar 0) (eArgs (nArgs 1 (gCall run_law_numbers)) (aCons (eVar 1) aNil)))) sNil)
    (sSeq (sSet 3 (eArgs (nArgs 1 (gCall run_law_numbers)) (aCons (eSl (eVar 1) (oSome (eC (.int 1))) oNone) aNil)))
    (sSeq (sIf (tOr' (tOf (eBin gLt (eVar 0) (eVar 3))) (tOf (eBin gNe (eBin gIxA (eVar 0) (eC (.int 0))) (eBin gIxA (eVar 3) (eC (.int 0)))))) (sRet (eC (.bool false))) sNil)
    (sSeq (sIf (tOf (eBin gEq (eBin gIxA (eVar 1) (eC (.int 0))) (eC (.str "~")))) (sRet (eBin gEq (eBin gIxA (eVar 0) (eC (.int 1))) (eBin gIxA (eVar 3) (eC (.int 1))))) sNil)
    (sSeq (sIf (tOf (eBin gGt (eBin gIxA (eVar 3) (eC (.int 0))) (eC (.int 0)))) (sRet (eC (.bool true))) sNil)
    (sSeq (sIf (tOf (eBin gNe (eBin gIxA (eVar 0) (eC (.int 1))) (eBin gIxA (eVar 3) (eC (.int 1))))) (sRet (eC (.bool false))) sNil)
    (sRet (eOrV (eBin gGt (eBin gIxA (eVar 3) (eC (.int 1))) (eC (.int 0))) (eBin gEq (eBin gIxA (eVar 0) (eC (.int 2))) (eBin gIxA (eVar 3) (eC (.int 2))))))))))))))
def run_law_fits_one : RF := runOf 4 b_law_fits_one
theorem st_law_fits_one {a0 a1 : SV} {h : LH} : run_law_fits_one [a0, a1] h = fin (b_law_fits_one [some a0, some a1, none, none] h) := run_fin rfl
def b_span_between : SF := (sSeq (sSet 1 (eS1 gSplit (eSl (eVar 0) (oSome (eC (.int 2))) oNone) (eC (.str " <"))))
    (sSeq (sIf (tOf (eBin gNe (eArgs gLen (aCons (eVar 1) aNil)) (eC (.int 2)))) (sRet (eC .none)) sNil)
    (sSeq (sPar 2 3 (aCons (eArgs (nArgs 1 (gCall run_version_numbers)) (aCons (eBin gIxA (eVar 1) (eC (.int 0))) aNil)) (aCons (eArgs (nArgs 1 (gCall run_version_numbers)) (aCons (eBin gIxA (eVar 1) (eC (.int 1))) aNil)) aNil)))
    (sSeq (sIf (tOr' (tOf (eBin (gIs false) (eVar 2) (eC .none))) (tOr' (tOf (eBin (gIs false) (eVar 3) (eC .none))) (tNot' (tOf (eBin gLt (eVar 2) (eVar 3)))))) (sRet (eC .none)) sNil)
    (sRet (eArgs gTup (aCons (eVar 2) (aCons (eVar 3) aNil))))))))
def run_span_between : RF := runOf 4 b_span_between
theorem st_span_between {a0 : SV} {h : LH} : run_span_between [a0] h = fin (b_span_between [some a0, none, none, none] h) := run_fin rfl
def b_is_version : SF := (sRet (eBin (gIs true) (eArgs (nArgs 1 (gCall run_version_numbers)) (aCons (eVar 0) aNil)) (eC .none)))
def run_is_version : RF := runOf 1 b_is_version
theorem st_is_version {a0 : SV} {h : LH} : run_is_version [a0] h = fin (b_is_version [some a0] h) := run_fin rfl
def b_law_alternative : SF := (sSeq (sSet 1 (eArgs (nArgs 2 (gCall run_law_next)) (aCons (eVar 0) (aCons (eC (.int 8)) aNil))))
    (sSeq (sIf (tOf (eBin gLe (eVar 1) (eC (.int 2)))) (sRet (eC (.str "*"))) sNil)
    (sSeq (sIf (tOf (eBin gLe (eVar 1) (eC (.int 5)))) (sRet (eBin gAdd (eC (.str "^")) (eArgs (nArgs 1 (gCall run_law_version)) (aCons (eVar 0) aNil)))) sNil)
    (sSeq (sIf (tOf (eBin gEq (eVar 1) (eC (.int 6)))) (sRet (eBin gAdd (eBin gIxA (eArgs gLst (aCons (eC (.str "")) (aCons (eC (.str "~")) aNil))) (eArgs (nArgs 2 (gCall run_law_next)) (aCons (eVar 0) (aCons (eC (.int 2)) aNil)))) (eArgs (nArgs 1 (gCall run_law_version)) (aCons (eVar 0) aNil)))) sNil)
    (sRet (eBin gIxA (eArgs gLst (aCons (eC (.str ">=1.0.0 <2.0.0")) (aCons (eC (.str ">=0.0.0 <1.0.1")) (aCons (eC (.str ">=1.1.0 <999.0.0")) aNil)))) (eArgs (nArgs 2 (gCall run_law_next)) (aCons (eVar 0) (aCons (eC (.int 3)) aNil)))))))))
def run_law_alternative : RF := runOf 2 b_law_alternative
theorem st_law_alternative {a0 : SV} {h : LH} : run_law_alternative [a0] h = fin (b_law_alternative [some a0, none] h) := run_fin rfl
def l_law_fits_1 : SF := (sIf (tTru (eArgs (nArgs 2 (gCall run_law_fits_one)) (aCons (eArgs (nArgs 1 (gCall run_law_numbers)) (aCons (eVar 0) aNil)) (aCons (eVar 2) aNil)))) (sRet (eC (.bool true))) sNil)
def b_law_fits : SF := (sSeq (sFor (iSeq (eS1 gSplit (eVar 1) (eC (.str " || ")))) (tgName 2) l_law_fits_1)
    (sRet (eC (.bool false))))
def run_law_fits : RF := runOf 3 b_law_fits
theorem st_law_fits {a0 a1 : SV} {h : LH} : run_law_fits [a0, a1] h = fin (b_law_fits [some a0, some a1, none] h) := run_fin rfl
def b_span_of : SF := (sSeq (sIf (tOf (eBin gEq (eVar 0) (eC (.str "*")))) (sRet (eArgs gTup (aCons (eArgs gTup (aCons (eC (.int 0)) (aCons (eC (.int 0)) (aCons (eC (.int 0)) aNil)))) (aCons (eC .none) aNil)))) sNil)
    (sSeq (sIf (tTru (eS1 gStarts (eVar 0) (eC (.str ">=")))) (sRet (eArgs (nArgs 1 (gCall run_span_between)) (aCons (eVar 0) aNil))) sNil)
    (sSeq (sSet 1 (eArgs (nArgs 1 (gCall run_version_numbers)) (aCons (eIf (tOf (eBin (gIn false) (eSl (eVar 0) oNone (oSome (eC (.int 1)))) (eArgs gTup (aCons (eC (.str "^")) (aCons (eC (.str "~")) aNil))))) (eSl (eVar 0) (oSome (eC (.int 1))) oNone) (eVar 0)) aNil)))
    (sSeq (sIf (tOf (eBin (gIs false) (eVar 1) (eC .none))) (sRet (eC .none)) sNil)
    (sSeq (sIf (tOf (eBin gEq (eBin gIxA (eVar 0) (eC (.int 0))) (eC (.str "^")))) (sRet (eArgs gTup (aCons (eVar 1) (aCons (eArgs (nArgs 1 (gCall run_next_major)) (aCons (eVar 1) aNil)) aNil)))) sNil)
    (sSeq (sIf (tOf (eBin gEq (eBin gIxA (eVar 0) (eC (.int 0))) (eC (.str "~")))) (sRet (eArgs gTup (aCons (eVar 1) (aCons (eArgs gTup (aCons (eBin gIxA (eVar 1) (eC (.int 0))) (aCons (eBin gAdd (eBin gIxA (eVar 1) (eC (.int 1))) (eC (.int 1))) (aCons (eC (.int 0)) aNil)))) aNil)))) sNil)
    (sRet (eArgs gTup (aCons (eVar 1) (aCons (eArgs gTup (aCons (eBin gIxA (eVar 1) (eC (.int 0))) (aCons (eBin gIxA (eVar 1) (eC (.int 1))) (aCons (eBin gAdd (eBin gIxA (eVar 1) (eC (.int 2))) (eC (.int 1))) aNil)))) aNil))))))))))
def run_span_of : RF := runOf 2 b_span_of
theorem st_span_of {a0 : SV} {h : LH} : run_span_of [a0] h = fin (b_span_of [some a0, none] h) := run_fin rfl
def b_law_range : SF := (sSeq (sIf (tOf (eBin gEq (eArgs (nArgs 2 (gCall run_law_next)) (aCons (eVar 0) (aCons (eC (.int 6)) aNil))) (eC (.int 0)))) (sRet (eBin gAdd (eBin gAdd (eArgs (nArgs 1 (gCall run_law_alternative)) (aCons (eVar 0) aNil)) (eC (.str " || "))) (eArgs (nArgs 1 (gCall run_law_alternative)) (aCons (eVar 0) aNil)))) sNil)
    (sRet (eArgs (nArgs 1 (gCall run_law_alternative)) (aCons (eVar 0) aNil))))
def run_law_range : RF := runOf 1 b_law_range
theorem st_law_range {a0 : SV} {h : LH} : run_law_range [a0] h = fin (b_law_range [some a0] h) := run_fin rfl
def l_law_kept_1 : SF := (sIf (tAnd' (tOf (eBin gEq (eArgs gTup (aCons (eVar 3) (aCons (eVar 4) aNil))) (eVar 2))) (tAnd' (tTru (eArgs (nArgs 2 (gCall run_law_fits)) (aCons (eVar 5) (aCons (eVar 4) aNil)))) (tOf (eBin (gIs true) (eArgs (nArgs 3 (gCall run_law_find)) (aCons (eVar 0) (aCons (eVar 3) (aCons (eVar 5) aNil)))) (eC .none))))) (sRet (eVar 5)) sNil)
def b_law_kept : SF := (sSeq (sFor (iSeq (eVar 1)) (tgTup 3 (tgsCons (tgName 3) (tgsCons (tgName 4) (tgsCons (tgName 5) tgsNil)))) l_law_kept_1)
    (sRet (eC .none)))
def run_law_kept : RF := runOf 6 b_law_kept
theorem st_law_kept {a0 a1 a2 : SV} {h : LH} : run_law_kept [a0, a1, a2] h = fin (b_law_kept [some a0, some a1, some a2, none, none, none] h) := run_fin rfl
def b_spans_of : SF := (sSeq (sIf (tNot' (tTru (eIsi "str" (eVar 0)))) (sRet (eC .none)) sNil)
    (sSeq (sSet 1 (eS1 gSplit (eVar 0) (eC (.str " || "))))
    (sSeq (sOwn 2 (fLc (iSeq (eVar 1)) (tgName 3) tYes' (eArgs (nArgs 1 (gCall run_span_of)) (aCons (eVar 3) aNil)) [3]))
    (sSeq (sFz 2 (sIf (tOr' (tOf (eBin gGt (eArgs gLen (aCons (eVar 1) aNil)) (eC (.int 3)))) (tOf (eBin (gIn false) (eC .none) (eVar 2)))) (sRet (eC .none)) sNil))
    (sRet (eVar 2))))))
def run_spans_of : RF := runOf 4 b_spans_of
theorem st_spans_of {a0 : SV} {h : LH} : run_spans_of [a0] h = fin (b_spans_of [some a0, none, none, none] h) := run_fin rfl
def l_law_needs_1 : SF := (sIf (tTruH (eVar 4)) (sApp 3 (eArgs gTup (aCons (ePop (eVar 4) (eArgs (nArgs 2 (gCall run_law_next)) (aCons (eVar 0) (aCons (eArgs gLenH (aCons (eVar 4) aNil)) aNil)))) (aCons (eArgs (nArgs 1 (gCall run_law_range)) (aCons (eVar 0) aNil)) aNil)))) sNil)
def b_law_needs : SF := (sSeq (sOwn 3 (eArgsF aNil))
    (sSeq (sSet 4 (eArgs gListH (aCons (eVar 1) aNil)))
    (sSeq (sFor (iRange1 (aCons (eArgs (nArgs 2 (gCall run_law_next)) (aCons (eVar 0) (aCons (eBin gAdd (eVar 2) (eC (.int 1))) aNil))) aNil)) (tgName 5) l_law_needs_1)
    (sFz 3 (sRet (eArgs gTuple (aCons (eVar 3) aNil)))))))
def run_law_needs : RF := runOf 6 b_law_needs
theorem st_law_needs {a0 a1 a2 : SV} {h : LH} : run_law_needs [a0, a1, a2] h = fin (b_law_needs [some a0, some a1, some a2, none, none, none] h) := run_fin rfl
def l_law_resolved_1 : SF := (sIf (tAnd' (tOf (eBin gEq (eBin gIxA (eVar 5) (eC (.int 0))) (eBin gIxA (eVar 2) (eC (.int 0))))) (tTru (eArgs (nArgs 2 (gCall run_law_fits)) (aCons (eBin gIxA (eVar 5) (eC (.int 1))) (aCons (eBin gIxA (eVar 2) (eC (.int 1))) aNil))))) (sIf (tOr' (tOf (eBin (gIs false) (eVar 4) (eC .none))) (tOf (eBin gLt (eArgs (nArgs 1 (gCall run_law_numbers)) (aCons (eVar 4) aNil)) (eArgs (nArgs 1 (gCall run_law_numbers)) (aCons (eBin gIxA (eVar 5) (eC (.int 1))) aNil))))) (sSet 4 (eBin gIxA (eVar 5) (eC (.int 1)))) sNil) sNil)
def b_law_resolved : SF := (sSeq (sSet 3 (eArgs (nArgs 3 (gCall run_law_kept)) (aCons (eVar 0) (aCons (eVar 1) (aCons (eVar 2) aNil)))))
    (sSeq (sIf (tOf (eBin (gIs true) (eVar 3) (eC .none))) (sRet (eVar 3)) sNil)
    (sSeq (sSet 4 (eC .none))
    (sSeq (sFor (iSeq (eVar 0)) (tgName 5) l_law_resolved_1)
    (sRet (eVar 4))))))
def run_law_resolved : RF := runOf 6 b_law_resolved
theorem st_law_resolved {a0 a1 a2 : SV} {h : LH} : run_law_resolved [a0, a1, a2] h = fin (b_law_resolved [some a0, some a1, some a2, none, none, none] h) := run_fin rfl
def b_is_range : SF := (sRet (eBin (gIs true) (eArgs (nArgs 1 (gCall run_spans_of)) (aCons (eVar 0) aNil)) (eC .none)))
def run_is_range : RF := runOf 1 b_is_range
theorem st_is_range {a0 : SV} {h : LH} : run_is_range [a0] h = fin (b_is_range [some a0] h) := run_fin rfl
def l_law_packages_1 : SF := (sSeq (sSet 7 (eArgs (nArgs 1 (gCall run_law_version)) (aCons (eVar 0) aNil)))
    (sIf (tOf (eBin (gIn true) (eVar 7) (eVar 5))) (sSeq (sApp 5 (eVar 7))
    (sSeq (sSet 8 (eArgs (nArgs 3 (gCall run_law_needs)) (aCons (eVar 0) (aCons (eVar 4) (aCons (eC (.int 2)) aNil)))))
    (sSeq (sSet 9 (eBin gAdd (eArgs gLst (aCons (eBin gIxA (eVar 1) (eVar 3)) aNil)) (eFz (fLc (iSeq (eVar 8)) (tgName 11) tYes' (eBin gIxA (eVar 11) (eC (.int 0))) [11]))))
    (sSeq (sSet 10 (eArgs gTup aNil))
    (sSeq (sIf (tOf (eBin gEq (eArgs (nArgs 2 (gCall run_law_next)) (aCons (eVar 0) (aCons (eC (.int 3)) aNil))) (eC (.int 0)))) (sSet 10 (eArgs (nArgs 3 (gCall run_law_needs)) (aCons (eVar 0) (aCons (eFz (fLc (iSeq (eVar 1)) (tgName 12) (tOf (eBin (gIn true) (eVar 12) (eVar 9))) (eVar 12) [12])) (aCons (eC (.int 1)) aNil))))) sNil)
    (sApp 2 (eArgs gTup (aCons (eBin gIxA (eVar 1) (eVar 3)) (aCons (eVar 7) (aCons (eVar 8) (aCons (eVar 10) aNil))))))))))) sNil))
def l_law_packages_2 : SF := (sSeq (sSet 4 (eSl (eVar 1) (oSome (eBin gAdd (eVar 3) (eC (.int 1)))) oNone))
    (sSeq (sIf (tOf (eBin gEq (eArgs (nArgs 2 (gCall run_law_next)) (aCons (eVar 0) (aCons (eC (.int 6)) aNil))) (eC (.int 0)))) (sSet 4 (eBin gAdd (eSl (eVar 1) oNone (oSome (eVar 3))) (eSl (eVar 1) (oSome (eBin gAdd (eVar 3) (eC (.int 1)))) oNone))) sNil)
    (sSeq (sOwn 5 (eArgsF aNil))
    (sFor (iRange1 (aCons (eBin gAdd (eC (.int 1)) (eArgs (nArgs 2 (gCall run_law_next)) (aCons (eVar 0) (aCons (eC (.int 2)) aNil)))) aNil)) (tgName 6) l_law_packages_1))))
def b_law_packages : SF := (sSeq (sSet 1 (eArgs gLst (aCons (eC (.str "app")) (aCons (eC (.str "base")) (aCons (eC (.str "core")) (aCons (eC (.str "plug")) (aCons (eC (.str "view")) (aCons (eC (.str "zed")) aNil))))))))
    (sSeq (sOwn 2 (eArgsF aNil))
    (sSeq (sFor (iRange1 (aCons (eArgs gLen (aCons (eVar 1) aNil)) aNil)) (tgName 3) l_law_packages_2)
    (sFz 2 (sRet (eArgs gTuple (aCons (eVar 2) aNil)))))))
def run_law_packages : RF := runOf 13 b_law_packages
theorem st_law_packages {a0 : SV} {h : LH} : run_law_packages [a0] h = fin (b_law_packages [some a0, none, none, none, none, none, none, none, none, none, none, none, none] h) := run_fin rfl
def b_law_project : SF := (sRet (eArgs (nArgs 3 (gCall run_law_needs)) (aCons (eVar 0) (aCons (eArgs gLst (aCons (eC (.str "app")) (aCons (eC (.str "base")) (aCons (eC (.str "core")) (aCons (eC (.str "plug")) (aCons (eC (.str "view")) (aCons (eC (.str "zed")) aNil))))))) (aCons (eC (.int 3)) aNil)))))
def run_law_project : RF := runOf 1 b_law_project
theorem st_law_project {a0 : SV} {h : LH} : run_law_project [a0] h = fin (b_law_project [some a0] h) := run_fin rfl
def l_law_resolve_1 : SF := (sIf (tOf (eBin gLt (eVar 5) (eArgs gLen (aCons (eVar 3) aNil)))) (sSeq (sSet 6 (eBin gIxA (eVar 3) (eVar 5)))
    (sIf (tOf (eBin (gIn true) (eVar 6) (eFz (fLc (iOwn (eVar 4)) (tgName 8) tYes' (eSl (eVar 8) oNone (oSome (eC (.int 2)))) [8])))) (sSeq (sSet 7 (eArgs (nArgs 3 (gCall run_law_resolved)) (aCons (eVar 0) (aCons (eVar 2) (aCons (eVar 6) aNil)))))
    (sSeq (sIf (tOf (eBin (gIs false) (eVar 7) (eC .none))) (sRet (eVar 6)) sNil)
    (sSeq (sApp 4 (eBin gAdd (eVar 6) (eArgs gTup (aCons (eVar 7) aNil))))
    (sSet 3 (eBin gAdd (eVar 3) (eFz (fSort (eArgs gList (aCons (eBin gIxA (eArgs (nArgs 3 (gCall run_law_find)) (aCons (eVar 0) (aCons (eBin gIxA (eVar 6) (eC (.int 0))) (aCons (eVar 7) aNil)))) (eC (.int 2))) aNil))))))))) sNil)) sNil)
def b_law_resolve : SF := (sSeq (sSet 3 (eFz (fSort (eArgs gList (aCons (eVar 1) aNil)))))
    (sSeq (sOwn 4 (eArgsF aNil))
    (sSeq (sFor (iRange1 (aCons (eC (.int 400)) aNil)) (tgName 5) l_law_resolve_1)
    (sFz 4 (sRet (eFz (fSort (eVar 4))))))))
def run_law_resolve : RF := runOf 9 b_law_resolve
theorem st_law_resolve {a0 a1 a2 : SV} {h : LH} : run_law_resolve [a0, a1, a2] h = fin (b_law_resolve [some a0, some a1, some a2, none, none, none, none, none, none] h) := run_fin rfl
def b_is_dependency : SF := (sRet (eAndV (eIsi "tuple" (eVar 0)) (eAndV (eBin gEq (eArgs gLen (aCons (eVar 0) aNil)) (eC (.int 2))) (eAndV (eArgs (nArgs 1 (gCall run_is_name)) (aCons (eBin gIxA (eVar 0) (eC (.int 0))) aNil)) (eArgs (nArgs 1 (gCall run_is_range)) (aCons (eBin gIxA (eVar 0) (eC (.int 1))) aNil))))))
def run_is_dependency : RF := runOf 1 b_is_dependency
theorem st_is_dependency {a0 : SV} {h : LH} : run_is_dependency [a0] h = fin (b_is_dependency [some a0] h) := run_fin rfl
def l_law_some_lock_1 : SF := (sIf (tOf (eBin gGt (eArgs (nArgs 2 (gCall run_law_next)) (aCons (eVar 0) (aCons (eC (.int 30)) aNil))) (eC (.int 0)))) (sSeq (sOwn 8 (fLc (iSeq (eVar 1)) (tgName 9) (tAnd' (tOf (eBin gEq (eBin gIxA (eVar 9) (eC (.int 0))) (eVar 5))) (tTru (eArgs (nArgs 2 (gCall run_law_fits)) (aCons (eBin gIxA (eVar 9) (eC (.int 1))) (aCons (eVar 6) aNil))))) (eBin gIxA (eVar 9) (eC (.int 1))) [9]))
    (sFz 8 (sApp 4 (eArgs gTup (aCons (eVar 5) (aCons (eVar 6) (aCons (eBin gIxA (eVar 8) (eArgs (nArgs 2 (gCall run_law_next)) (aCons (eVar 0) (aCons (eArgs gLen (aCons (eVar 8) aNil)) aNil)))) aNil))))))) sNil)
def b_law_some_lock : SF := (sSeq (sSet 3 (eArgs (nArgs 3 (gCall run_law_resolve)) (aCons (eVar 1) (aCons (eVar 2) (aCons (eArgs gTup aNil) aNil)))))
    (sSeq (sIf (tTru (eIsi "tuple" (eVar 3))) (sRet (eArgs gTup aNil)) sNil)
    (sSeq (sOwn 4 (eArgsF aNil))
    (sSeq (sFor (iSeq (eVar 3)) (tgTup 3 (tgsCons (tgName 5) (tgsCons (tgName 6) (tgsCons (tgName 7) tgsNil)))) l_law_some_lock_1)
    (sSeq (sFz 4 (sIf (tOf (eBin gEq (eArgs (nArgs 2 (gCall run_law_next)) (aCons (eVar 0) (aCons (eC (.int 8)) aNil))) (eC (.int 0)))) (sSet 4 (eBin gAdd (eVar 4) (eArgs gLst (aCons (eArgs gTup (aCons (eC (.str "app")) (aCons (eC (.str "^9.9.9")) (aCons (eC (.str "9.9.9")) aNil)))) aNil)))) sNil))
    (sRet (eArgs gTuple (aCons (eVar 4) aNil))))))))
def run_law_some_lock : RF := runOf 10 b_law_some_lock
theorem st_law_some_lock {a0 a1 a2 : SV} {h : LH} : run_law_some_lock [a0, a1, a2] h = fin (b_law_some_lock [some a0, some a1, some a2, none, none, none, none, none, none, none] h) := run_fin rfl
def b_are_dependencies : SF := (sSeq (sIf (tOr' (tNot' (tTru (eIsi "tuple" (eVar 0)))) (tOf (eBin gGt (eArgs gLen (aCons (eVar 0) aNil)) (eC (.int 6))))) (sRet (eC (.bool false))) sNil)
    (sRet (eArgs gAll (aCons (eFz (fLc (iSeq (eVar 0)) (tgName 1) tYes' (eArgs (nArgs 1 (gCall run_is_dependency)) (aCons (eVar 1) aNil)) [1])) aNil))))
def run_are_dependencies : RF := runOf 2 b_are_dependencies
theorem st_are_dependencies {a0 : SV} {h : LH} : run_are_dependencies [a0] h = fin (b_are_dependencies [some a0, none] h) := run_fin rfl
def b_is_entry : SF := (sRet (eAndV (eIsi "tuple" (eVar 0)) (eAndV (eBin gEq (eArgs gLen (aCons (eVar 0) aNil)) (eC (.int 3))) (eAndV (eArgs (nArgs 1 (gCall run_is_dependency)) (aCons (eSl (eVar 0) oNone (oSome (eC (.int 2)))) aNil)) (eArgs (nArgs 1 (gCall run_is_version)) (aCons (eBin gIxA (eVar 0) (eC (.int 2))) aNil))))))
def run_is_entry : RF := runOf 1 b_is_entry
theorem st_is_entry {a0 : SV} {h : LH} : run_is_entry [a0] h = fin (b_is_entry [some a0] h) := run_fin rfl
def b_is_manifest : SF := (sSeq (sIf (tOr' (tNot' (tTru (eIsi "tuple" (eVar 0)))) (tOr' (tOf (eBin gNe (eArgs gLen (aCons (eVar 0) aNil)) (eC (.int 4)))) (tOr' (tNot' (tTru (eArgs (nArgs 1 (gCall run_is_name)) (aCons (eBin gIxA (eVar 0) (eC (.int 0))) aNil)))) (tNot' (tTru (eArgs (nArgs 1 (gCall run_is_version)) (aCons (eBin gIxA (eVar 0) (eC (.int 1))) aNil))))))) (sRet (eC (.bool false))) sNil)
    (sSeq (sIf (tOr' (tNot' (tTru (eArgs (nArgs 1 (gCall run_are_dependencies)) (aCons (eBin gIxA (eVar 0) (eC (.int 2))) aNil)))) (tNot' (tTru (eArgs (nArgs 1 (gCall run_are_dependencies)) (aCons (eBin gIxA (eVar 0) (eC (.int 3))) aNil))))) (sRet (eC (.bool false))) sNil)
    (sRet (eArgs (nArgs 1 (gCall run_are_different)) (aCons (eBin gAdd (eBin gAdd (eArgs gLst (aCons (eBin gIxA (eVar 0) (eC (.int 0))) aNil)) (eFz (fLc (iSeq (eBin gIxA (eVar 0) (eC (.int 2)))) (tgName 1) tYes' (eBin gIxA (eVar 1) (eC (.int 0))) [1]))) (eFz (fLc (iSeq (eBin gIxA (eVar 0) (eC (.int 3)))) (tgName 1) tYes' (eBin gIxA (eVar 1) (eC (.int 0))) [1]))) aNil)))))
def run_is_manifest : RF := runOf 2 b_is_manifest
theorem st_is_manifest {a0 : SV} {h : LH} : run_is_manifest [a0] h = fin (b_is_manifest [some a0, none] h) := run_fin rfl
def b_check_project : SF := (sIf (tOr' (tNot' (tTru (eArgs (nArgs 1 (gCall run_are_dependencies)) (aCons (eVar 0) aNil)))) (tNot' (tTru (eArgs (nArgs 1 (gCall run_are_different)) (aCons (eFz (fLc (iSeq (eVar 0)) (tgName 1) tYes' (eBin gIxA (eVar 1) (eC (.int 0))) [1])) aNil))))) (sRaise "BadProject") sNil)
def run_check_project : RF := runOf 2 b_check_project
theorem st_check_project {a0 : SV} {h : LH} : run_check_project [a0] h = fin (b_check_project [some a0, none] h) := run_fin rfl
def b_check_lock : SF := (sSeq (sIf (tOr' (tNot' (tTru (eIsi "tuple" (eVar 0)))) (tOr' (tOf (eBin gGt (eArgs gLen (aCons (eVar 0) aNil)) (eC (.int 102)))) (tNot' (tTru (eArgs gAll (aCons (eFz (fLc (iSeq (eVar 0)) (tgName 1) tYes' (eArgs (nArgs 1 (gCall run_is_entry)) (aCons (eVar 1) aNil)) [1])) aNil)))))) (sRaise "BadLock") sNil)
    (sIf (tNot' (tTru (eArgs (nArgs 1 (gCall run_are_different)) (aCons (eFz (fLc (iSeq (eVar 0)) (tgName 1) tYes' (eSl (eVar 1) oNone (oSome (eC (.int 2)))) [1])) aNil)))) (sRaise "BadLock") sNil))
def run_check_lock : RF := runOf 2 b_check_lock
theorem st_check_lock {a0 : SV} {h : LH} : run_check_lock [a0] h = fin (b_check_lock [some a0, none] h) := run_fin rfl
def b_are_packages : SF := (sSeq (sIf (tOr' (tNot' (tTru (eIsi "tuple" (eVar 0)))) (tOr' (tOf (eBin gGt (eArgs gLen (aCons (eVar 0) aNil)) (eC (.int 16)))) (tNot' (tTru (eArgs gAll (aCons (eFz (fLc (iSeq (eVar 0)) (tgName 1) tYes' (eArgs (nArgs 1 (gCall run_is_manifest)) (aCons (eVar 1) aNil)) [1])) aNil)))))) (sRet (eC (.bool false))) sNil)
    (sRet (eArgs (nArgs 1 (gCall run_are_different)) (aCons (eFz (fLc (iSeq (eVar 0)) (tgName 1) tYes' (eSl (eVar 1) oNone (oSome (eC (.int 2)))) [1])) aNil))))
def run_are_packages : RF := runOf 2 b_are_packages
theorem st_are_packages {a0 : SV} {h : LH} : run_are_packages [a0] h = fin (b_are_packages [some a0, none] h) := run_fin rfl
def b_check_packages : SF := (sIf (tNot' (tTru (eArgs (nArgs 1 (gCall run_are_packages)) (aCons (eVar 0) aNil)))) (sRaise "BadPackages") sNil)
def run_check_packages : RF := runOf 1 b_check_packages
theorem st_check_packages {a0 : SV} {h : LH} : run_check_packages [a0] h = fin (b_check_packages [some a0] h) := run_fin rfl
def b_law_kind : SF := (sSeq (sTry (exSub exRows) (sIf (tOf (eBin gEq (eVar 0) (eC (.str "packages")))) (sExpr (eArgs (nArgs 1 (gCall run_check_packages)) (aCons (eVar 1) aNil))) (sIf (tOf (eBin gEq (eVar 0) (eC (.str "project")))) (sExpr (eArgs (nArgs 1 (gCall run_check_project)) (aCons (eVar 1) aNil))) (sExpr (eArgs (nArgs 1 (gCall run_check_lock)) (aCons (eVar 1) aNil))))) [("BadPackages", some 2, (sRet (eBin gIxA (eArgs gLst (aCons (eC (.str "other")) (aCons (eC (.str "packages")) aNil))) (eArgs gInt (aCons (eIsE (exSub exRows) "ShelfError" 2) aNil))))), ("BadProject", some 2, (sRet (eBin gIxA (eArgs gLst (aCons (eC (.str "other")) (aCons (eC (.str "project")) aNil))) (eArgs gInt (aCons (eIsE (exSub exRows) "ShelfError" 2) aNil))))), ("BadLock", some 2, (sRet (eBin gIxA (eArgs gLst (aCons (eC (.str "other")) (aCons (eC (.str "lock")) aNil))) (eArgs gInt (aCons (eIsE (exSub exRows) "ShelfError" 2) aNil)))))])
    (sRet (eC (.str "done"))))
def run_law_kind : RF := runOf 3 b_law_kind
theorem st_law_kind {a0 a1 : SV} {h : LH} : run_law_kind [a0, a1] h = fin (b_law_kind [some a0, some a1, none] h) := run_fin rfl
def l_law_1 : SF := (sIf (tOr' (tOf (eBin gNe (eArgs (nArgs 2 (gCall run_law_kind)) (aCons (eVar 5) (aCons (eVar 6) aNil))) (eC (.str "done")))) (tOr' (tOf (eBin gNe (eArgs (nArgs 2 (gCall run_law_kind)) (aCons (eVar 5) (aCons (eArgs gList (aCons (eVar 6) aNil)) aNil))) (eVar 5))) (tOf (eBin gNe (eArgs (nArgs 2 (gCall run_law_kind)) (aCons (eVar 5) (aCons (eC .none) aNil))) (eVar 5))))) (sRet (eC (.bool false))) sNil)
def l_law_2 : SF := (sIf (tNot' (tTru (eArgs (nArgs 2 (gPure (run_law_same 8))) (aCons (eArgs (nArgs 3 (gCall run_find_package)) (aCons (eVar 2) (aCons (eBin gIxA (eVar 7) (eC (.int 0))) (aCons (eBin gIxA (eVar 7) (eC (.int 1))) aNil)))) (aCons (eVar 7) aNil))))) (sRet (eC (.bool false))) sNil)
def b_law : SF := (sSeq (sSet 1 (eArgs (nArgs 3 (gCall run_law_stream)) (aCons (eVar 0) (aCons (eC (.int 0)) (aCons (eC (.int 12)) aNil)))))
    (sSeq (sSet 2 (eArgs (nArgs 1 (gCall run_law_packages)) (aCons (eVar 1) aNil)))
    (sSeq (sSet 3 (eArgs (nArgs 1 (gCall run_law_project)) (aCons (eVar 1) aNil)))
    (sSeq (sSet 4 (eArgs (nArgs 3 (gCall run_law_some_lock)) (aCons (eVar 1) (aCons (eVar 2) (aCons (eVar 3) aNil)))))
    (sSeq (sFor (iSeq (eArgs gLst (aCons (eArgs gTup (aCons (eC (.str "packages")) (aCons (eVar 2) aNil))) (aCons (eArgs gTup (aCons (eC (.str "project")) (aCons (eVar 3) aNil))) (aCons (eArgs gTup (aCons (eC (.str "lock")) (aCons (eVar 4) aNil))) aNil))))) (tgTup 2 (tgsCons (tgName 5) (tgsCons (tgName 6) tgsNil))) l_law_1)
    (sSeq (sFor (iSeq (eVar 2)) (tgName 7) l_law_2)
    (sSeq (sIf (tOr' (tOf (eBin (gIs true) (eArgs (nArgs 3 (gCall run_find_package)) (aCons (eVar 2) (aCons (eC (.str "none")) (aCons (eC (.str "1.0.0")) aNil)))) (eC .none))) (tOf (eBin (gIs true) (eArgs (nArgs 3 (gCall run_find_package)) (aCons (eVar 2) (aCons (eC (.str "app")) (aCons (eC (.str "9.9.9")) aNil)))) (eC .none)))) (sRet (eC (.bool false))) sNil)
    (sSeq (sSet 8 (eC (.str "a-2345678901")))
    (sSeq (sIf (tOr' (tOf (eBin gNe (eArgs (nArgs 2 (gCall run_law_kind)) (aCons (eC (.str "packages")) (aCons (eArgs gTup (aCons (eArgs gTup (aCons (eVar 8) (aCons (eC (.str "1.0.0")) (aCons (eArgs gTup (aCons (eArgs gTup (aCons (eC (.str "abcdefghijkl")) (aCons (eC (.str "*")) aNil))) aNil)) (aCons (eArgs gTup (aCons (eArgs gTup (aCons (eSl (eVar 8) oNone (oSome (eC (.int 11)))) (aCons (eC (.str "*")) aNil))) aNil)) aNil))))) aNil)) aNil))) (eC (.str "done")))) (tOf (eBin gNe (eArgs (nArgs 2 (gCall run_law_kind)) (aCons (eC (.str "project")) (aCons (eArgs gTup (aCons (eArgs gTup (aCons (eVar 8) (aCons (eC (.str "*")) aNil))) aNil)) aNil))) (eC (.str "done"))))) (sRet (eC (.bool false))) sNil)
    (sSeq (sSet 9 (eArgs gLst (aCons (eC (.str "")) (aCons (eC (.str "A")) (aCons (eC (.str "a b")) (aCons (eC (.str "1a")) (aCons (eC (.str "-a")) (aCons (eC (.str "abcdefghijklm")) (aCons (eC (.str "a_b")) (aCons (eC .none) (aCons (eC (.int 7)) (aCons (eC (.str "a.b")) aNil))))))))))))
    (sSeq (sSet 10 (eArgs gLst (aCons (eArgs gTup (aCons (eC (.str "a")) aNil)) (aCons (eArgs gTup (aCons (eC (.str "a")) (aCons (eC (.str "*")) (aCons (eC (.str "*")) aNil)))) (aCons (eArgs gLst (aCons (eC (.str "a")) (aCons (eC (.str "*")) aNil))) (aCons (eArgs gTup (aCons (eC (.str "a")) (aCons (eC (.str "x")) aNil))) (aCons (eArgs gTup (aCons (eC (.str "a")) (aCons (eC .none) aNil))) (aCons (eArgs gTup (aCons (eBin gIxA (eVar 9) (eArgs (nArgs 2 (gCall run_law_next)) (aCons (eVar 1) (aCons (eC (.int 10)) aNil)))) (aCons (eC (.str "*")) aNil))) (aCons (eC (.str "a*")) (aCons (eC .none) aNil))))))))))
    (sSeq (sSet 11 (eBin gIxA (eVar 10) (eArgs (nArgs 2 (gCall run_law_next)) (aCons (eVar 1) (aCons (eC (.int 8)) aNil)))))
    (sSeq (sSet 12 (eArgs gTuple (aCons (eFz (fLc (iRange1 (aCons (eC (.int 7)) aNil)) (tgName 21) tYes' (eArgs gTup (aCons (eBin gIxA (eC (.str "abcdefg")) (eVar 21)) (aCons (eC (.str "*")) aNil))) [21])) aNil)))
    (sSeq (sSet 13 (eArgs gLst (aCons (eArgs gTup (aCons (eVar 11) aNil)) (aCons (eVar 12) (aCons (eArgs gLst (aCons (eArgs gTup (aCons (eC (.str "a")) (aCons (eC (.str "*")) aNil))) aNil)) (aCons (eC .none) (aCons (eArgs gTup (aCons (eArgs gTup (aCons (eC (.str "a")) (aCons (eC (.str "*")) aNil))) (aCons (eArgs gTup (aCons (eC (.str "a")) (aCons (eC (.str "1.0.0")) aNil))) aNil))) aNil)))))))
    (sSeq (sSet 14 (eBin gIxA (eVar 13) (eArgs (nArgs 2 (gCall run_law_next)) (aCons (eVar 1) (aCons (eC (.int 5)) aNil)))))
    (sSeq (sSet 15 (eBin gIxA (eVar 9) (eArgs (nArgs 2 (gCall run_law_next)) (aCons (eVar 1) (aCons (eC (.int 10)) aNil)))))
    (sSeq (sSet 16 (eArgs gLst (aCons (eArgs gTup (aCons (eVar 15) (aCons (eC (.str "1.0.0")) (aCons (eArgs gTup aNil) (aCons (eArgs gTup aNil) aNil))))) (aCons (eArgs gTup (aCons (eC (.str "a1")) (aCons (eC (.str "1.0")) (aCons (eArgs gTup aNil) (aCons (eArgs gTup aNil) aNil))))) (aCons (eArgs gTup (aCons (eC (.str "a1")) (aCons (eC (.str "1.0.0")) (aCons (eVar 14) (aCons (eArgs gTup aNil) aNil))))) (aCons (eArgs gTup (aCons (eC (.str "a1")) (aCons (eC (.str "1.0.0")) (aCons (eArgs gTup aNil) (aCons (eVar 14) aNil))))) (aCons (eArgs gTup (aCons (eC (.str "a1")) (aCons (eC (.str "1.0.0")) (aCons (eArgs gTup aNil) aNil)))) aNil)))))))
    (sSeq (sSet 16 (eBin gAdd (eVar 16) (eArgs gLst (aCons (eArgs gTup (aCons (eC (.str "b")) (aCons (eC (.str "1.0.0")) (aCons (eArgs gTup (aCons (eArgs gTup (aCons (eC (.str "b")) (aCons (eC (.str "*")) aNil))) aNil)) (aCons (eArgs gTup aNil) aNil))))) (aCons (eArgs gTup (aCons (eC (.str "b")) (aCons (eC (.str "1.0.0")) (aCons (eArgs gTup aNil) (aCons (eArgs gTup (aCons (eArgs gTup (aCons (eC (.str "b")) (aCons (eC (.str "*")) aNil))) aNil)) aNil))))) (aCons (eArgs gTup (aCons (eC (.str "b")) (aCons (eC (.str "1.0.0")) (aCons (eArgs gTup (aCons (eArgs gTup (aCons (eC (.str "c")) (aCons (eC (.str "*")) aNil))) aNil)) (aCons (eArgs gTup (aCons (eArgs gTup (aCons (eC (.str "c")) (aCons (eC (.str "^1.0.0")) aNil))) aNil)) aNil))))) aNil))))))
    (sSeq (sSet 16 (eBin gAdd (eVar 16) (eArgs gLst (aCons (eArgs gLst (aCons (eC (.str "b")) (aCons (eC (.str "1.0.0")) (aCons (eArgs gTup aNil) (aCons (eArgs gTup aNil) aNil))))) (aCons (eC .none) (aCons (eArgs gTup (aCons (eC (.str "b")) (aCons (eC (.str "1.0.0")) (aCons (eArgs gTup aNil) (aCons (eArgs gTup aNil) (aCons (eArgs gTup aNil) aNil)))))) aNil))))))
    (sSeq (sIf (tOr' (tOf (eBin gNe (eArgs (nArgs 2 (gCall run_law_kind)) (aCons (eC (.str "packages")) (aCons (eArgs gTup (aCons (eBin gIxA (eVar 16) (eArgs (nArgs 2 (gCall run_law_next)) (aCons (eVar 1) (aCons (eC (.int 11)) aNil)))) aNil)) aNil))) (eC (.str "packages")))) (tOf (eBin gNe (eArgs (nArgs 2 (gCall run_law_kind)) (aCons (eC (.str "project")) (aCons (eVar 14) aNil))) (eC (.str "project"))))) (sRet (eC (.bool false))) sNil)
    (sSeq (sSet 17 (eArgs gTup (aCons (eArgs gTup (aCons (eC (.str "b")) (aCons (eC (.str "1.0.0")) (aCons (eArgs gTup aNil) (aCons (eArgs gTup aNil) aNil))))) (aCons (eArgs gTup (aCons (eC (.str "b")) (aCons (eC (.str "1.0.0")) (aCons (eArgs gTup (aCons (eArgs gTup (aCons (eC (.str "c")) (aCons (eC (.str "*")) aNil))) aNil)) (aCons (eArgs gTup aNil) aNil))))) aNil))))
    (sSeq (sSet 18 (eArgs gTuple (aCons (eFz (fLc (iRange1 (aCons (eC (.int 17)) aNil)) (tgName 21) tYes' (eArgs gTup (aCons (eC (.str "p")) (aCons (eBin gAdd (eC (.str "1.0.")) (eArgs gStr (aCons (eVar 21) aNil))) (aCons (eSl (eVar 12) oNone (oSome (eC (.int 6)))) (aCons (eArgs gTup aNil) aNil))))) [21])) aNil)))
    (sSeq (sIf (tOr' (tOf (eBin gNe (eArgs (nArgs 2 (gCall run_law_kind)) (aCons (eC (.str "packages")) (aCons (eVar 17) aNil))) (eC (.str "packages")))) (tOr' (tOf (eBin gNe (eArgs (nArgs 2 (gCall run_law_kind)) (aCons (eC (.str "packages")) (aCons (eVar 18) aNil))) (eC (.str "packages")))) (tOf (eBin gNe (eArgs (nArgs 2 (gCall run_law_kind)) (aCons (eC (.str "packages")) (aCons (eSl (eVar 18) oNone (oSome (eC (.int 16)))) aNil))) (eC (.str "done")))))) (sRet (eC (.bool false))) sNil)
    (sSeq (sSet 19 (eArgs gLst (aCons (eIf (tAnd' (tTru (eIsi "tuple" (eVar 11))) (tOf (eBin gEq (eArgs gLen (aCons (eVar 11) aNil)) (eC (.int 2))))) (eBin gAdd (eVar 11) (eArgs gTup (aCons (eC (.str "1.0.0")) aNil))) (eArgs gTup (aCons (eC (.str "a")) (aCons (eC (.str "*")) aNil)))) (aCons (eArgs gTup (aCons (eC (.str "a")) (aCons (eC (.str "*")) (aCons (eC (.str "1.0")) aNil)))) (aCons (eArgs gTup (aCons (eC (.str "a")) (aCons (eC (.str "*")) (aCons (eC (.str "^1.0.0")) aNil)))) (aCons (eArgs gLst (aCons (eC (.str "a")) (aCons (eC (.str "*")) (aCons (eC (.str "1.0.0")) aNil)))) aNil))))))
    (sSeq (sSet 20 (eBin gIxA (eVar 19) (eArgs (nArgs 2 (gCall run_law_next)) (aCons (eVar 1) (aCons (eC (.int 4)) aNil)))))
    (sSeq (sSet 8 (eArgs gTuple (aCons (eFz (fLc (iRange1 (aCons (eC (.int 103)) aNil)) (tgName 21) tYes' (eArgs gTup (aCons (eC (.str "a")) (aCons (eBin gAdd (eC (.str "1.0.")) (eArgs gStr (aCons (eVar 21) aNil))) (aCons (eC (.str "1.0.0")) aNil)))) [21])) aNil)))
    (sSeq (sIf (tOr' (tOf (eBin gNe (eArgs (nArgs 2 (gCall run_law_kind)) (aCons (eC (.str "lock")) (aCons (eArgs gTup (aCons (eVar 20) aNil)) aNil))) (eC (.str "lock")))) (tOr' (tOf (eBin gNe (eArgs (nArgs 2 (gCall run_law_kind)) (aCons (eC (.str "lock")) (aCons (eVar 8) aNil))) (eC (.str "lock")))) (tOf (eBin gNe (eArgs (nArgs 2 (gCall run_law_kind)) (aCons (eC (.str "lock")) (aCons (eSl (eVar 8) oNone (oSome (eC (.int 102)))) aNil))) (eC (.str "done")))))) (sRet (eC (.bool false))) sNil)
    (sRet (eAndV (eBin gEq (eArgs (nArgs 2 (gCall run_law_kind)) (aCons (eC (.str "lock")) (aCons (eArgs gTup (aCons (eArgs gTup (aCons (eC (.str "a")) (aCons (eC (.str "*")) (aCons (eC (.str "1.0.0")) aNil)))) (aCons (eArgs gTup (aCons (eC (.str "a")) (aCons (eC (.str "*")) (aCons (eC (.str "2.0.0")) aNil)))) aNil))) aNil))) (eC (.str "lock"))) (eBin gEq (eArgs (nArgs 2 (gCall run_law_kind)) (aCons (eC (.str "project")) (aCons (eSl (eVar 12) oNone (oSome (eC (.int 6)))) aNil))) (eC (.str "done"))))))))))))))))))))))))))))))))
def run_law : RF := runOf 22 b_law
theorem st_law {a0 : SV} {h : LH} : run_law [a0] h = fin (b_law [some a0, none, none, none, none, none, none, none, none, none, none, none, none, none, none, none, none, none, none, none, none, none] h) := run_fin rfl
end Q
namespace Q
open PySem PySem.Spec PyProof.Rows L2 U
abbrev tV3 : Ty (Int × Int × Int) := (tT (consT tI (consT tI (oneT tI))))
abbrev tSpan : Ty ((Int × Int × Int) × (Option (Int × Int × Int))) := (tT (consT tV3 (oneT (tO tV3))))
abbrev tDep : Ty (Str × Str) := (tT (consT tS (oneT tS)))
abbrev tDeps : Ty (List (Str × Str)) := (tU tDep)
abbrev tMan : Ty (Str × Str × (List (Str × Str)) × (List (Str × Str))) := (tT (consT tS (consT tS (consT tDeps (oneT tDeps)))))
abbrev tPk : Ty (List (Str × Str × (List (Str × Str)) × (List (Str × Str)))) := (tU tMan)
abbrev tEnt : Ty (Str × Str × Str) := (tT (consT tS (consT tS (oneT tS))))
abbrev tLk : Ty (List (Str × Str × Str)) := (tU tEnt)
def z_0123456789 : Str := ⟨#[48, 49, 50, 51, 52, 53, 54, 55, 56, 57]⟩
theorem ez_0123456789 : Str.ofString "0123456789" = z_0123456789 := by decide +kernel
def z_0 : Str := ⟨#[48]⟩
theorem ez_0 : Str.ofString "0" = z_0 := by decide +kernel
def z_abcdefghijklmnopqrstuv : Str := ⟨#[97, 98, 99, 100, 101, 102, 103, 104, 105, 106, 107, 108, 109, 110, 111, 112, 113, 114, 115, 116, 117, 118, 119, 120, 121, 122]⟩
theorem ez_abcdefghijklmnopqrstuv : Str.ofString "abcdefghijklmnopqrstuvwxyz" = z_abcdefghijklmnopqrstuv := by decide +kernel
def z_abcdefghijklmnopqrstuv' : Str := ⟨#[97, 98, 99, 100, 101, 102, 103, 104, 105, 106, 107, 108, 109, 110, 111, 112, 113, 114, 115, 116, 117, 118, 119, 120, 121, 122, 48, 49, 50, 51, 52, 53, 54, 55, 56, 57, 45]⟩
theorem ez_abcdefghijklmnopqrstuv' : Str.ofString "abcdefghijklmnopqrstuvwxyz0123456789-" = z_abcdefghijklmnopqrstuv' := by decide +kernel
def z__ : Str := ⟨#[46]⟩
theorem ez__ : Str.ofString "." = z__ := by decide +kernel
def z_1_0_0 : Str := ⟨#[49, 46, 48, 46, 48]⟩
theorem ez_1_0_0 : Str.ofString "1.0.0" = z_1_0_0 := by decide +kernel
def z_1_2_0 : Str := ⟨#[49, 46, 50, 46, 48]⟩
theorem ez_1_2_0 : Str.ofString "1.2.0" = z_1_2_0 := by decide +kernel
def z_2_0_0 : Str := ⟨#[50, 46, 48, 46, 48]⟩
theorem ez_2_0_0 : Str.ofString "2.0.0" = z_2_0_0 := by decide +kernel
def z_0_3_1 : Str := ⟨#[48, 46, 51, 46, 49]⟩
theorem ez_0_3_1 : Str.ofString "0.3.1" = z_0_3_1 := by decide +kernel
def z_0_0_4 : Str := ⟨#[48, 46, 48, 46, 52]⟩
theorem ez_0_0_4 : Str.ofString "0.0.4" = z_0_0_4 := by decide +kernel
def z_1_10_0 : Str := ⟨#[49, 46, 49, 48, 46, 48]⟩
theorem ez_1_10_0 : Str.ofString "1.10.0" = z_1_10_0 := by decide +kernel
def z_star : Str := ⟨#[42]⟩
theorem ez_star : Str.ofString "*" = z_star := by decide +kernel
def z_ge : Str := ⟨#[62, 61]⟩
theorem ez_ge : Str.ofString ">=" = z_ge := by decide +kernel
def z_sl : Str := ⟨#[32, 60]⟩
theorem ez_sl : Str.ofString " <" = z_sl := by decide +kernel
def z_u : Str := ⟨#[94]⟩
theorem ez_u : Str.ofString "^" = z_u := by decide +kernel
def z_t : Str := ⟨#[126]⟩
theorem ez_t : Str.ofString "~" = z_t := by decide +kernel
def z_empty : Str := ⟨#[]⟩
theorem ez_empty : Str.ofString "" = z_empty := by decide +kernel
def z_ge1_0_0sl2_0_0 : Str := ⟨#[62, 61, 49, 46, 48, 46, 48, 32, 60, 50, 46, 48, 46, 48]⟩
theorem ez_ge1_0_0sl2_0_0 : Str.ofString ">=1.0.0 <2.0.0" = z_ge1_0_0sl2_0_0 := by decide +kernel
def z_ge0_0_0sl1_0_1 : Str := ⟨#[62, 61, 48, 46, 48, 46, 48, 32, 60, 49, 46, 48, 46, 49]⟩
theorem ez_ge0_0_0sl1_0_1 : Str.ofString ">=0.0.0 <1.0.1" = z_ge0_0_0sl1_0_1 := by decide +kernel
def z_ge1_1_0sl999_0_0 : Str := ⟨#[62, 61, 49, 46, 49, 46, 48, 32, 60, 57, 57, 57, 46, 48, 46, 48]⟩
theorem ez_ge1_1_0sl999_0_0 : Str.ofString ">=1.1.0 <999.0.0" = z_ge1_1_0sl999_0_0 := by decide +kernel
def z_sbbs : Str := ⟨#[32, 124, 124, 32]⟩
theorem ez_sbbs : Str.ofString " || " = z_sbbs := by decide +kernel
def z_app : Str := ⟨#[97, 112, 112]⟩
theorem ez_app : Str.ofString "app" = z_app := by decide +kernel
def z_base : Str := ⟨#[98, 97, 115, 101]⟩
theorem ez_base : Str.ofString "base" = z_base := by decide +kernel
def z_core : Str := ⟨#[99, 111, 114, 101]⟩
theorem ez_core : Str.ofString "core" = z_core := by decide +kernel
def z_plug : Str := ⟨#[112, 108, 117, 103]⟩
theorem ez_plug : Str.ofString "plug" = z_plug := by decide +kernel
def z_view : Str := ⟨#[118, 105, 101, 119]⟩
theorem ez_view : Str.ofString "view" = z_view := by decide +kernel
def z_zed : Str := ⟨#[122, 101, 100]⟩
theorem ez_zed : Str.ofString "zed" = z_zed := by decide +kernel
def z_u9_9_9 : Str := ⟨#[94, 57, 46, 57, 46, 57]⟩
theorem ez_u9_9_9 : Str.ofString "^9.9.9" = z_u9_9_9 := by decide +kernel
def z_9_9_9 : Str := ⟨#[57, 46, 57, 46, 57]⟩
theorem ez_9_9_9 : Str.ofString "9.9.9" = z_9_9_9 := by decide +kernel
def z_packages : Str := ⟨#[112, 97, 99, 107, 97, 103, 101, 115]⟩
theorem ez_packages : Str.ofString "packages" = z_packages := by decide +kernel
def z_project : Str := ⟨#[112, 114, 111, 106, 101, 99, 116]⟩
theorem ez_project : Str.ofString "project" = z_project := by decide +kernel
def z_other : Str := ⟨#[111, 116, 104, 101, 114]⟩
theorem ez_other : Str.ofString "other" = z_other := by decide +kernel
def z_lock : Str := ⟨#[108, 111, 99, 107]⟩
theorem ez_lock : Str.ofString "lock" = z_lock := by decide +kernel
def z_done : Str := ⟨#[100, 111, 110, 101]⟩
theorem ez_done : Str.ofString "done" = z_done := by decide +kernel
def z_none : Str := ⟨#[110, 111, 110, 101]⟩
theorem ez_none : Str.ofString "none" = z_none := by decide +kernel
def z_am2345678901 : Str := ⟨#[97, 45, 50, 51, 52, 53, 54, 55, 56, 57, 48, 49]⟩
theorem ez_am2345678901 : Str.ofString "a-2345678901" = z_am2345678901 := by decide +kernel
def z_abcdefghijkl : Str := ⟨#[97, 98, 99, 100, 101, 102, 103, 104, 105, 106, 107, 108]⟩
theorem ez_abcdefghijkl : Str.ofString "abcdefghijkl" = z_abcdefghijkl := by decide +kernel
def z_A : Str := ⟨#[65]⟩
theorem ez_A : Str.ofString "A" = z_A := by decide +kernel
def z_asb : Str := ⟨#[97, 32, 98]⟩
theorem ez_asb : Str.ofString "a b" = z_asb := by decide +kernel
def z_1a : Str := ⟨#[49, 97]⟩
theorem ez_1a : Str.ofString "1a" = z_1a := by decide +kernel
def z_ma : Str := ⟨#[45, 97]⟩
theorem ez_ma : Str.ofString "-a" = z_ma := by decide +kernel
def z_abcdefghijklm : Str := ⟨#[97, 98, 99, 100, 101, 102, 103, 104, 105, 106, 107, 108, 109]⟩
theorem ez_abcdefghijklm : Str.ofString "abcdefghijklm" = z_abcdefghijklm := by decide +kernel
def z_ax5fb : Str := ⟨#[97, 95, 98]⟩
theorem ez_ax5fb : Str.ofString "a_b" = z_ax5fb := by decide +kernel
def z_a_b : Str := ⟨#[97, 46, 98]⟩
theorem ez_a_b : Str.ofString "a.b" = z_a_b := by decide +kernel
def z_a : Str := ⟨#[97]⟩
theorem ez_a : Str.ofString "a" = z_a := by decide +kernel
def z_x : Str := ⟨#[120]⟩
theorem ez_x : Str.ofString "x" = z_x := by decide +kernel
def z_astar : Str := ⟨#[97, 42]⟩
theorem ez_astar : Str.ofString "a*" = z_astar := by decide +kernel
def z_abcdefg : Str := ⟨#[97, 98, 99, 100, 101, 102, 103]⟩
theorem ez_abcdefg : Str.ofString "abcdefg" = z_abcdefg := by decide +kernel
def z_a1 : Str := ⟨#[97, 49]⟩
theorem ez_a1 : Str.ofString "a1" = z_a1 := by decide +kernel
def z_1_0 : Str := ⟨#[49, 46, 48]⟩
theorem ez_1_0 : Str.ofString "1.0" = z_1_0 := by decide +kernel
def z_b : Str := ⟨#[98]⟩
theorem ez_b : Str.ofString "b" = z_b := by decide +kernel
def z_c : Str := ⟨#[99]⟩
theorem ez_c : Str.ofString "c" = z_c := by decide +kernel
def z_u1_0_0 : Str := ⟨#[94, 49, 46, 48, 46, 48]⟩
theorem ez_u1_0_0 : Str.ofString "^1.0.0" = z_u1_0_0 := by decide +kernel
def z_p : Str := ⟨#[112]⟩
theorem ez_p : Str.ofString "p" = z_p := by decide +kernel
def z_1_0_ : Str := ⟨#[49, 46, 48, 46]⟩
theorem ez_1_0_ : Str.ofString "1.0." = z_1_0_ := by decide +kernel
def F_number_of (text1 : Str) : T (Option Int) := (T.bind (T.bind (T.bind (T.bind (lenT text1) fun a3 => T.pure (decide ((1 : Int) ≤ a3) && decide (a3 ≤ (3 : Int)))) fun b => T.pure (!b)) fun b => if b then T.pure true else (T.bind (T.bind (compM (signsT text1) fun char4 => (inStr char4 z_0123456789)) fun a7 => (T.pure (a7.all id))) fun b => T.pure (!b))) fun b => if b then (T.pure (none : (Option Int))) else (T.bind (T.bind (T.bind (lenT text1) fun a10 => T.pure (decide (a10 > (1 : Int)))) fun b => if b then (T.bind (ixS text1 (0 : Int)) fun a13 => T.pure (decide (a13 = z_0))) else T.pure false) fun b => if b then (T.pure (none : (Option Int))) else (T.bind (intT text1) fun a15 => T.pure (some a15))))
theorem ok_F_number_of (text1 : Str) : ∀ h, SE (v (tO tI)) (run_number_of [(v tS) text1] h) (F_number_of text1 h) := by
  intro h
  refine run_se (m := 2) (fb := b_number_of) rfl ?_ h
  unfold b_number_of F_number_of
  exact (SJ.ifM (J.tOr (J.tNot (J.tOf (J.chainPMP (k := fun a3 => decide ((1 : Int) ≤ a3)) (k' := fun a3 => decide (a3 ≤ (3 : Int))) (fun _ => rfl) (J.args (ec := (v tI)) (AC.p (fun _ => rfl) (AC.nil (fun h2 => o_lenS text1 h2)))) (fun _ h => o_lei _ _ h) (fun _ => rfl) (fun _ h => o_lei _ _ h)))) (J.tNot (J.tTruB (J.args (ec := (v tB)) (AC.m (ea := (v (tL tB))) (J.fz (J.compM (u := tB) (PJ.strI (fun _ => rfl)) (fun char4 => ⟨_, rfl, (PJ.bin (fun _ => rfl) (PJ.sc ez_0123456789) (fun h5 => o_inSF char4 z_0123456789 h5))⟩))) (fun a7 => (AC.nil (fun h6 => o_all a7 h6)))))))) (SJ.retP (fun _ => rfl) rfl (fun _ => rfl)) (SJ.nil (SJ.ifM (J.tAnd (J.tOf (J.binMP (ea := (v tI)) (ec := (v tB)) (J.args (ec := (v tI)) (AC.p (fun _ => rfl) (AC.nil (fun h8 => o_lenS text1 h8)))) (fun _ => rfl) (fun a10 h9 => o_gti a10 (1 : Int) h9))) (J.tOf (J.binMP (ea := (v tS)) (ec := (v tB)) (J.binPP (ec := (v tS)) (fun _ => rfl) (fun _ => rfl) (fun h11 => o_ixS text1 (0 : Int) h11)) (PJ.sc ez_0) (fun a13 h12 => o_eqs a13 z_0 h12)))) (SJ.retP (fun _ => rfl) rfl (fun _ => rfl)) (SJ.nil (SJ.one (SJ.retF (J.map (e := (v tI)) (e' := (v (tO tI))) (g := fun a15 => (some a15)) (J.args (ec := (v tI)) (AC.p (fun _ => rfl) (AC.nil (fun h14 => o_intS text1 h14)))) (fun _ => rfl)) (fun _ => rfl)))))))
theorem hi_F_number_of (a0 : Str) : HI (F_number_of a0) := by
  unfold F_number_of
  repeat' first | (with_reducible exact HI.pure _) | (with_reducible exact HI.raise _) | (with_reducible exact HI.bad) | (with_reducible exact HI.opt _) | (with_reducible exact HI.ixT _ _) | (with_reducible exact HI.lenT _) | (with_reducible exact HI.slS _ _ _) | (with_reducible exact HI.slD _ _ _) | (with_reducible exact HI.ltT _ _ _ _) | (with_reducible exact HI.leT _ _ _ _) | (with_reducible exact HI.gtT _ _ _ _) | (with_reducible exact HI.geT _ _ _ _) | (with_reducible exact HI.modT _ _) | (with_reducible exact HI.mulT _ _) | (with_reducible exact HI.catT _ _) | (with_reducible exact HI.catS _ _) | (with_reducible exact HI.pushT _ _) | (with_reducible exact HI.intT _) | (with_reducible exact HI.strT _) | (with_reducible exact HI.splitT _ _) | (with_reducible exact HI.joinT _ _) | (with_reducible exact HI.rngT _) | (with_reducible exact HI.rng2T _ _) | (with_reducible exact HI.isET _ _ _) | (with_reducible exact HI.addD _ _) | (with_reducible exact HI.ixD _ _) | (with_reducible exact HI.ixS _ _) | (with_reducible exact HI.lenD _) | (with_reducible exact HI.eqD _ _) | (with_reducible exact HI.neD _ _) | (with_reducible exact HI.inD _ _ _ _) | (with_reducible exact HI.countD _ _ _) | (with_reducible exact HI.sortT _ _) | (with_reducible exact HI.cast _ _) | (with_reducible exact HI.compP _ _ _) | (with_reducible exact HI.compM _ _) | (with_reducible apply HI.bind) | (with_reducible apply HI.ite) | (with_reducible apply HI.onN) | (with_reducible apply HI.go) | (with_reducible apply HI.calm) | (with_reducible apply HI.compT) | (with_reducible apply HI.for0) | (with_reducible apply HI.for_) | (with_reducible apply HI.while0) | (with_reducible apply HI.while_) | (with_reducible apply HI.tryT) | (with_reducible apply HI.hdT) | (with_reducible apply HI.guard) | intro _ | split
def F_next_major (numbers1 : (Int × Int × Int)) : T (Int × Int × Int) := (T.bind (T.pure numbers1) fun p2 => (if (decide (p2.1 > (0 : Int))) then (T.pure ((p2.1 + (1 : Int)), (0 : Int), (0 : Int))) else (if (decide (p2.2.1 > (0 : Int))) then (T.pure ((0 : Int), (p2.2.1 + (1 : Int)), (0 : Int))) else (T.pure ((0 : Int), (0 : Int), (p2.2.2 + (1 : Int)))))))
theorem ok_F_next_major (numbers1 : (Int × Int × Int)) : ∀ h, SE (v tV3) (run_next_major [(v tV3) numbers1] h) (F_next_major numbers1 h) := by
  intro h
  refine run_se (m := 4) (fb := b_next_major) rfl ?_ h
  unfold b_next_major F_next_major
  exact (SJ.tg (PJ.j (e := (v tV3)) (fun _ => rfl)) (fun p2 => ⟨_, _, rfl, rfl, (SJ.ifP (PJ.tOf (PJ.bin (fun _ => rfl) (fun _ => rfl) (fun h3 => o_gti p2.1 (0 : Int) h3))) (SJ.retP (PJ.args (PA.cons (PJ.bin (fun _ => rfl) (fun _ => rfl) (fun h4 => o_add p2.1 (1 : Int) h4)) (PA.cons (fun _ => rfl) (PA.cons (fun _ => rfl) PA.nil))) (fun h6 => rfl)) rfl (fun _ => rfl)) (SJ.nil (SJ.ifP (PJ.tOf (PJ.bin (fun _ => rfl) (fun _ => rfl) (fun h7 => o_gti p2.2.1 (0 : Int) h7))) (SJ.retP (PJ.args (PA.cons (fun _ => rfl) (PA.cons (PJ.bin (fun _ => rfl) (fun _ => rfl) (fun h8 => o_add p2.2.1 (1 : Int) h8)) (PA.cons (fun _ => rfl) PA.nil))) (fun h10 => rfl)) rfl (fun _ => rfl)) (SJ.nil (SJ.one (SJ.retP (PJ.args (PA.cons (fun _ => rfl) (PA.cons (fun _ => rfl) (PA.cons (PJ.bin (fun _ => rfl) (fun _ => rfl) (fun h11 => o_add p2.2.2 (1 : Int) h11)) PA.nil))) (fun h13 => rfl)) rfl (fun _ => rfl)))))))⟩))
theorem hi_F_next_major (a0 : (Int × Int × Int)) : HI (F_next_major a0) := by
  unfold F_next_major
  repeat' first | (with_reducible exact HI.pure _) | (with_reducible exact HI.raise _) | (with_reducible exact HI.bad) | (with_reducible exact HI.opt _) | (with_reducible exact HI.ixT _ _) | (with_reducible exact HI.lenT _) | (with_reducible exact HI.slS _ _ _) | (with_reducible exact HI.slD _ _ _) | (with_reducible exact HI.ltT _ _ _ _) | (with_reducible exact HI.leT _ _ _ _) | (with_reducible exact HI.gtT _ _ _ _) | (with_reducible exact HI.geT _ _ _ _) | (with_reducible exact HI.modT _ _) | (with_reducible exact HI.mulT _ _) | (with_reducible exact HI.catT _ _) | (with_reducible exact HI.catS _ _) | (with_reducible exact HI.pushT _ _) | (with_reducible exact HI.intT _) | (with_reducible exact HI.strT _) | (with_reducible exact HI.splitT _ _) | (with_reducible exact HI.joinT _ _) | (with_reducible exact HI.rngT _) | (with_reducible exact HI.rng2T _ _) | (with_reducible exact HI.isET _ _ _) | (with_reducible exact HI.addD _ _) | (with_reducible exact HI.ixD _ _) | (with_reducible exact HI.ixS _ _) | (with_reducible exact HI.lenD _) | (with_reducible exact HI.eqD _ _) | (with_reducible exact HI.neD _ _) | (with_reducible exact HI.inD _ _ _ _) | (with_reducible exact HI.countD _ _ _) | (with_reducible exact HI.sortT _ _) | (with_reducible exact HI.cast _ _) | (with_reducible exact HI.compP _ _ _) | (with_reducible exact HI.compM _ _) | (with_reducible apply HI.bind) | (with_reducible apply HI.ite) | (with_reducible apply HI.onN) | (with_reducible apply HI.go) | (with_reducible apply HI.calm) | (with_reducible apply HI.compT) | (with_reducible apply HI.for0) | (with_reducible apply HI.for_) | (with_reducible apply HI.while0) | (with_reducible apply HI.while_) | (with_reducible apply HI.tryT) | (with_reducible apply HI.hdT) | (with_reducible apply HI.guard) | intro _ | split
def F_is_name (value1 : D) : T Bool := (T.bind (T.bind (T.bind (T.opt (isiS "str" ((v tD) value1))) fun b => T.pure (!b)) fun b => if b then T.pure true else (T.bind (T.bind (lenD value1) fun a3 => T.pure (decide ((1 : Int) ≤ a3) && decide (a3 ≤ (12 : Int)))) fun b => T.pure (!b))) fun b => if b then (T.pure false) else (T.bind (T.bind (T.bind (ixD value1 (0 : Int)) fun d => cast tS d) fun a6 => T.pure (inStr a6 z_abcdefghijklmnopqrstuv)) fun b => if b then (T.bind (T.bind (T.bind (cast tS value1) fun a => T.pure (signsT a)) fun l9 => compT l9 (fun char7 => (T.pure true)) (fun char7 => (T.pure (inStr char7 z_abcdefghijklmnopqrstuv')))) fun a11 => (T.pure (a11.all id))) else T.pure false))
theorem ok_F_is_name (value1 : D) : ∀ h, SE (v tB) (run_is_name [(v tD) value1] h) (F_is_name value1 h) := by
  intro h
  refine run_se (m := 2) (fb := b_is_name) rfl ?_ h
  unfold b_is_name F_is_name
  exact (SJ.ifM (J.tOr (J.tNot (J.tTruB (J.isiP (fun _ => rfl)))) (J.tNot (J.tOf (J.chainPMP (k := fun a3 => decide ((1 : Int) ≤ a3)) (k' := fun a3 => decide (a3 ≤ (12 : Int))) (fun _ => rfl) (J.args (ec := (v tI)) (AC.p (fun _ => rfl) (AC.nil (fun h2 => dy_se tI _)))) (fun _ h => o_lei _ _ h) (fun _ => rfl) (fun _ h => o_lei _ _ h))))) (SJ.retP (fun _ => rfl) rfl (fun _ => rfl)) (SJ.nil (SJ.one (SJ.retF (J.andV (J.binMP (ea := (v tS)) (ec := (v tB)) (J.cast (t := tS) (J.binPP (ec := (v tD)) (fun _ => rfl) (fun _ => rfl) (fun h4 => o_ixD value1 (0 : Int) h4))) (PJ.sc ez_abcdefghijklmnopqrstuv) (fun a6 h5 => o_inSF a6 z_abcdefghijklmnopqrstuv h5)) (J.args (ec := (v tB)) (AC.m (ea := (v (tL tB))) (J.fz (J.comp (u := tB) (J.strI (J.castP (t := tS) (fun _ => rfl))) (fun char7 => ⟨_, rfl, (PJ.j (e := idB) pj_yes), (PJ.j (e := (v tB)) (PJ.bin (fun _ => rfl) (PJ.sc ez_abcdefghijklmnopqrstuv') (fun h8 => o_inSF char7 z_abcdefghijklmnopqrstuv' h8)))⟩))) (fun a11 => (AC.nil (fun h10 => o_all a11 h10)))))) (fun _ => rfl)))))
theorem hi_F_is_name (a0 : D) : HI (F_is_name a0) := by
  unfold F_is_name
  repeat' first | (with_reducible exact HI.pure _) | (with_reducible exact HI.raise _) | (with_reducible exact HI.bad) | (with_reducible exact HI.opt _) | (with_reducible exact HI.ixT _ _) | (with_reducible exact HI.lenT _) | (with_reducible exact HI.slS _ _ _) | (with_reducible exact HI.slD _ _ _) | (with_reducible exact HI.ltT _ _ _ _) | (with_reducible exact HI.leT _ _ _ _) | (with_reducible exact HI.gtT _ _ _ _) | (with_reducible exact HI.geT _ _ _ _) | (with_reducible exact HI.modT _ _) | (with_reducible exact HI.mulT _ _) | (with_reducible exact HI.catT _ _) | (with_reducible exact HI.catS _ _) | (with_reducible exact HI.pushT _ _) | (with_reducible exact HI.intT _) | (with_reducible exact HI.strT _) | (with_reducible exact HI.splitT _ _) | (with_reducible exact HI.joinT _ _) | (with_reducible exact HI.rngT _) | (with_reducible exact HI.rng2T _ _) | (with_reducible exact HI.isET _ _ _) | (with_reducible exact HI.addD _ _) | (with_reducible exact HI.ixD _ _) | (with_reducible exact HI.ixS _ _) | (with_reducible exact HI.lenD _) | (with_reducible exact HI.eqD _ _) | (with_reducible exact HI.neD _ _) | (with_reducible exact HI.inD _ _ _ _) | (with_reducible exact HI.countD _ _ _) | (with_reducible exact HI.sortT _ _) | (with_reducible exact HI.cast _ _) | (with_reducible exact HI.compP _ _ _) | (with_reducible exact HI.compM _ _) | (with_reducible apply HI.bind) | (with_reducible apply HI.ite) | (with_reducible apply HI.onN) | (with_reducible apply HI.go) | (with_reducible apply HI.calm) | (with_reducible apply HI.compT) | (with_reducible apply HI.for0) | (with_reducible apply HI.for_) | (with_reducible apply HI.while0) | (with_reducible apply HI.while_) | (with_reducible apply HI.tryT) | (with_reducible apply HI.hdT) | (with_reducible apply HI.guard) | intro _ | split
def F_are_different (values1 : (List D)) : T Bool := (T.bind (compT values1 (fun value2 => (T.pure true)) (fun value2 => (T.bind (countD tD value2 values1) fun a4 => T.pure (decide (a4 = (1 : Int)))))) fun a6 => (T.pure (a6.all id)))
theorem ok_F_are_different (values1 : (List D)) : ∀ h, SE (v tB) (run_are_different [(v (tL tD)) values1] h) (F_are_different values1 h) := by
  intro h
  refine run_se (m := 2) (fb := b_are_different) rfl ?_ h
  unfold b_are_different F_are_different
  exact (SJ.one (SJ.retF (J.args (ec := (v tB)) (AC.m (ea := (v (tL tB))) (J.fz (J.compI (u := tB) (PJ.seq (fxL (t := tD)) (fun _ => rfl)) (fun value2 => ⟨_, rfl, (PJ.j (e := idB) pj_yes), (J.binMP (ea := (v tI)) (ec := (v tB)) (J.countD (lsL (t := tD)) (fun _ => rfl) (fun _ => rfl)) (fun _ => rfl) (fun a4 h3 => o_eqi a4 (1 : Int) h3))⟩))) (fun a6 => (AC.nil (fun h5 => o_all a6 h5))))) (fun _ => rfl)))
theorem hi_F_are_different (a0 : (List D)) : HI (F_are_different a0) := by
  unfold F_are_different
  repeat' first | (with_reducible exact HI.pure _) | (with_reducible exact HI.raise _) | (with_reducible exact HI.bad) | (with_reducible exact HI.opt _) | (with_reducible exact HI.ixT _ _) | (with_reducible exact HI.lenT _) | (with_reducible exact HI.slS _ _ _) | (with_reducible exact HI.slD _ _ _) | (with_reducible exact HI.ltT _ _ _ _) | (with_reducible exact HI.leT _ _ _ _) | (with_reducible exact HI.gtT _ _ _ _) | (with_reducible exact HI.geT _ _ _ _) | (with_reducible exact HI.modT _ _) | (with_reducible exact HI.mulT _ _) | (with_reducible exact HI.catT _ _) | (with_reducible exact HI.catS _ _) | (with_reducible exact HI.pushT _ _) | (with_reducible exact HI.intT _) | (with_reducible exact HI.strT _) | (with_reducible exact HI.splitT _ _) | (with_reducible exact HI.joinT _ _) | (with_reducible exact HI.rngT _) | (with_reducible exact HI.rng2T _ _) | (with_reducible exact HI.isET _ _ _) | (with_reducible exact HI.addD _ _) | (with_reducible exact HI.ixD _ _) | (with_reducible exact HI.ixS _ _) | (with_reducible exact HI.lenD _) | (with_reducible exact HI.eqD _ _) | (with_reducible exact HI.neD _ _) | (with_reducible exact HI.inD _ _ _ _) | (with_reducible exact HI.countD _ _ _) | (with_reducible exact HI.sortT _ _) | (with_reducible exact HI.cast _ _) | (with_reducible exact HI.compP _ _ _) | (with_reducible exact HI.compM _ _) | (with_reducible apply HI.bind) | (with_reducible apply HI.ite) | (with_reducible apply HI.onN) | (with_reducible apply HI.go) | (with_reducible apply HI.calm) | (with_reducible apply HI.compT) | (with_reducible apply HI.for0) | (with_reducible apply HI.for_) | (with_reducible apply HI.while0) | (with_reducible apply HI.while_) | (with_reducible apply HI.tryT) | (with_reducible apply HI.hdT) | (with_reducible apply HI.guard) | intro _ | split
def F_find_package (packages1 : (List (Str × Str × (List (Str × Str)) × (List (Str × Str))))) (name2 : Str) (version3 : Str) : T (Option (Str × Str × (List (Str × Str)) × (List (Str × Str)))) := (T.bind (T.pure packages1) fun l13 => T.bind (forT (fun manifest9 => (fun (_ : Unit) => (if (eqX tDep tDep (manifest9.1, manifest9.2.1) (name2, version3)) then (T.pure (Lp.out (some manifest9))) else (T.pure (Lp.nx ()))))) l13 ()) (Jn.go (fun (_ : Unit) => (T.pure (none : (Option (Str × Str × (List (Str × Str)) × (List (Str × Str)))))))))
theorem ok_F_find_package (packages1 : (List (Str × Str × (List (Str × Str)) × (List (Str × Str))))) (name2 : Str) (version3 : Str) : ∀ h, SE (v (tO tMan)) (run_find_package [(v tPk) packages1, (v tS) name2, (v tS) version3] h) (F_find_package packages1 name2 version3 h) := by
  intro h
  refine run_se (m := 4) (fb := b_find_package) rfl ?_ h
  unfold b_find_package F_find_package l_find_package_1
  exact (SJ.for_ (E := (fun (_ : Unit) (ds : DS) => ∃ j4 : Option SV, okJ j4 ∧ ds = [(some ((v tPk) packages1)), (some ((v tS) name2)), (some ((v tS) version3)), j4])) (PJ.j (e := it tMan) (PJ.seq (fxU (t := tMan)) (fun _ => rfl))) ⟨none, trivial, rfl⟩ (fun manifest9 => (fun _ ds hE => by obtain ⟨j4, hj4, rfl⟩ := hE; exact ⟨_, rfl, (SJ.one (SJ.ifP (PJ.tOf (PJ.bin (PJ.sl (fun _ => rfl) po_n (po_s (fun _ => rfl)) (fun _ => rfl)) (PJ.args (PA.cons (fun _ => rfl) (PA.cons (fun _ => rfl) PA.nil)) (fun h11 => rfl)) (fun h12 => o_eq (t := tDep) (u := tDep) (by decide) (by decide) (manifest9.1, manifest9.2.1) (name2, version3) h12))) (SJ.retP (fun _ => rfl) rfl (fun _ => ⟨_, rfl, rfl⟩)) (SJ.nil (SJ.end_ (fun _ => ⟨_, ⟨(some ((v tMan) manifest9)), trivial, rfl⟩, Or.inl rfl⟩)))))⟩)) (fun _ ds hE => by obtain ⟨j4, hj4, rfl⟩ := hE; exact (SJ.one (SJ.retP (fun _ => rfl) rfl (fun _ => rfl)))))
theorem hi_F_find_package (a0 : (List (Str × Str × (List (Str × Str)) × (List (Str × Str))))) (a1 : Str) (a2 : Str) : HI (F_find_package a0 a1 a2) := by
  unfold F_find_package
  repeat' first | (with_reducible exact HI.pure _) | (with_reducible exact HI.raise _) | (with_reducible exact HI.bad) | (with_reducible exact HI.opt _) | (with_reducible exact HI.ixT _ _) | (with_reducible exact HI.lenT _) | (with_reducible exact HI.slS _ _ _) | (with_reducible exact HI.slD _ _ _) | (with_reducible exact HI.ltT _ _ _ _) | (with_reducible exact HI.leT _ _ _ _) | (with_reducible exact HI.gtT _ _ _ _) | (with_reducible exact HI.geT _ _ _ _) | (with_reducible exact HI.modT _ _) | (with_reducible exact HI.mulT _ _) | (with_reducible exact HI.catT _ _) | (with_reducible exact HI.catS _ _) | (with_reducible exact HI.pushT _ _) | (with_reducible exact HI.intT _) | (with_reducible exact HI.strT _) | (with_reducible exact HI.splitT _ _) | (with_reducible exact HI.joinT _ _) | (with_reducible exact HI.rngT _) | (with_reducible exact HI.rng2T _ _) | (with_reducible exact HI.isET _ _ _) | (with_reducible exact HI.addD _ _) | (with_reducible exact HI.ixD _ _) | (with_reducible exact HI.ixS _ _) | (with_reducible exact HI.lenD _) | (with_reducible exact HI.eqD _ _) | (with_reducible exact HI.neD _ _) | (with_reducible exact HI.inD _ _ _ _) | (with_reducible exact HI.countD _ _ _) | (with_reducible exact HI.sortT _ _) | (with_reducible exact HI.cast _ _) | (with_reducible exact HI.compP _ _ _) | (with_reducible exact HI.compM _ _) | (with_reducible apply HI.bind) | (with_reducible apply HI.ite) | (with_reducible apply HI.onN) | (with_reducible apply HI.go) | (with_reducible apply HI.calm) | (with_reducible apply HI.compT) | (with_reducible apply HI.for0) | (with_reducible apply HI.for_) | (with_reducible apply HI.while0) | (with_reducible apply HI.while_) | (with_reducible apply HI.tryT) | (with_reducible apply HI.hdT) | (with_reducible apply HI.guard) | intro _ | split
def F_law_cell (a0 : (List Int)) (a1 : Int) : T Int := fun h => dy tI (gPure run_law_cell [SV.scr a0, (v tI) a1] h)
def F_law_draws (a0 : Int) (a1 : Int) : T (List Int) := fun h => dy (tL tI) (gPure run_law_draws [(v tI) a0, (v tI) a1] h)
def F_law_next (a0 : Nat) (a1 : Int) : T Int := fun h => dy tI (gCall run_law_next [SV.ref a0, (v tI) a1] h)
def F_law_is_integer (a0 : D) : T Bool := fun h => dy tB (gPure run_law_is_integer [(v tD) a0] h)
def F_law_numbers (version_here1 : Str) : T (List Int) := (T.bind (splitT version_here1 z__) fun l4 => compT l4 (fun part2 => (T.pure true)) (fun part2 => (intT part2)))
theorem ok_F_law_numbers (version_here1 : Str) : ∀ h, SE (v (tL tI)) (run_law_numbers [(v tS) version_here1] h) (F_law_numbers version_here1 h) := by
  intro h
  refine run_se (m := 2) (fb := b_law_numbers) rfl ?_ h
  unfold b_law_numbers F_law_numbers
  exact (SJ.one (SJ.retF (J.fz (J.comp (u := tI) (J.seq (fxL (t := tS)) (J.s1 (fun _ => rfl) (PJ.sc ez__) (fun h => o_split _ _ h))) (fun part2 => ⟨_, rfl, (PJ.j (e := idB) pj_yes), (J.args (ec := (v tI)) (AC.p (fun _ => rfl) (AC.nil (fun h3 => o_intS part2 h3))))⟩))) (fun _ => rfl)))
theorem hi_F_law_numbers (a0 : Str) : HI (F_law_numbers a0) := by
  unfold F_law_numbers
  repeat' first | (with_reducible exact HI.pure _) | (with_reducible exact HI.raise _) | (with_reducible exact HI.bad) | (with_reducible exact HI.opt _) | (with_reducible exact HI.ixT _ _) | (with_reducible exact HI.lenT _) | (with_reducible exact HI.slS _ _ _) | (with_reducible exact HI.slD _ _ _) | (with_reducible exact HI.ltT _ _ _ _) | (with_reducible exact HI.leT _ _ _ _) | (with_reducible exact HI.gtT _ _ _ _) | (with_reducible exact HI.geT _ _ _ _) | (with_reducible exact HI.modT _ _) | (with_reducible exact HI.mulT _ _) | (with_reducible exact HI.catT _ _) | (with_reducible exact HI.catS _ _) | (with_reducible exact HI.pushT _ _) | (with_reducible exact HI.intT _) | (with_reducible exact HI.strT _) | (with_reducible exact HI.splitT _ _) | (with_reducible exact HI.joinT _ _) | (with_reducible exact HI.rngT _) | (with_reducible exact HI.rng2T _ _) | (with_reducible exact HI.isET _ _ _) | (with_reducible exact HI.addD _ _) | (with_reducible exact HI.ixD _ _) | (with_reducible exact HI.ixS _ _) | (with_reducible exact HI.lenD _) | (with_reducible exact HI.eqD _ _) | (with_reducible exact HI.neD _ _) | (with_reducible exact HI.inD _ _ _ _) | (with_reducible exact HI.countD _ _ _) | (with_reducible exact HI.sortT _ _) | (with_reducible exact HI.cast _ _) | (with_reducible exact HI.compP _ _ _) | (with_reducible exact HI.compM _ _) | (with_reducible apply HI.bind) | (with_reducible apply HI.ite) | (with_reducible apply HI.onN) | (with_reducible apply HI.go) | (with_reducible apply HI.calm) | (with_reducible apply HI.compT) | (with_reducible apply HI.for0) | (with_reducible apply HI.for_) | (with_reducible apply HI.while0) | (with_reducible apply HI.while_) | (with_reducible apply HI.tryT) | (with_reducible apply HI.hdT) | (with_reducible apply HI.guard) | intro _ | split
def F_law_find (packages_here1 : (List (Str × Str × (List (Str × Str)) × (List (Str × Str))))) (name2 : Str) (version_here3 : Str) : T (Option (Str × Str × (List (Str × Str)) × (List (Str × Str)))) := (T.bind (T.pure packages_here1) fun l15 => T.bind (forT (fun manifest10 => (fun (_ : Unit) => (if ((decide (manifest10.1 = name2)) && (decide (manifest10.2.1 = version_here3))) then (T.pure (Lp.out (some manifest10))) else (T.pure (Lp.nx ()))))) l15 ()) (Jn.go (fun (_ : Unit) => (T.pure (none : (Option (Str × Str × (List (Str × Str)) × (List (Str × Str)))))))))
theorem ok_F_law_find (packages_here1 : (List (Str × Str × (List (Str × Str)) × (List (Str × Str))))) (name2 : Str) (version_here3 : Str) : ∀ h, SE (v (tO tMan)) (run_law_find [(v tPk) packages_here1, (v tS) name2, (v tS) version_here3] h) (F_law_find packages_here1 name2 version_here3 h) := by
  intro h
  refine run_se (m := 4) (fb := b_law_find) rfl ?_ h
  unfold b_law_find F_law_find l_law_find_1
  exact (SJ.for_ (E := (fun (_ : Unit) (ds : DS) => ∃ j4 : Option SV, okJ j4 ∧ ds = [(some ((v tPk) packages_here1)), (some ((v tS) name2)), (some ((v tS) version_here3)), j4])) (PJ.j (e := it tMan) (PJ.seq (fxU (t := tMan)) (fun _ => rfl))) ⟨none, trivial, rfl⟩ (fun manifest10 => (fun _ ds hE => by obtain ⟨j4, hj4, rfl⟩ := hE; exact ⟨_, rfl, (SJ.one (SJ.ifP (PJ.tAnd (PJ.tOf (PJ.bin (PJ.bin (fun _ => rfl) (fun _ => rfl) (fun h11 => rfl)) (fun _ => rfl) (fun h12 => o_eqs manifest10.1 name2 h12))) (PJ.tOf (PJ.bin (PJ.bin (fun _ => rfl) (fun _ => rfl) (fun h13 => rfl)) (fun _ => rfl) (fun h14 => o_eqs manifest10.2.1 version_here3 h14)))) (SJ.retP (fun _ => rfl) rfl (fun _ => ⟨_, rfl, rfl⟩)) (SJ.nil (SJ.end_ (fun _ => ⟨_, ⟨(some ((v tMan) manifest10)), trivial, rfl⟩, Or.inl rfl⟩)))))⟩)) (fun _ ds hE => by obtain ⟨j4, hj4, rfl⟩ := hE; exact (SJ.one (SJ.retP (fun _ => rfl) rfl (fun _ => rfl)))))
theorem hi_F_law_find (a0 : (List (Str × Str × (List (Str × Str)) × (List (Str × Str))))) (a1 : Str) (a2 : Str) : HI (F_law_find a0 a1 a2) := by
  unfold F_law_find
  repeat' first | (with_reducible exact HI.pure _) | (with_reducible exact HI.raise _) | (with_reducible exact HI.bad) | (with_reducible exact HI.opt _) | (with_reducible exact HI.ixT _ _) | (with_reducible exact HI.lenT _) | (with_reducible exact HI.slS _ _ _) | (with_reducible exact HI.slD _ _ _) | (with_reducible exact HI.ltT _ _ _ _) | (with_reducible exact HI.leT _ _ _ _) | (with_reducible exact HI.gtT _ _ _ _) | (with_reducible exact HI.geT _ _ _ _) | (with_reducible exact HI.modT _ _) | (with_reducible exact HI.mulT _ _) | (with_reducible exact HI.catT _ _) | (with_reducible exact HI.catS _ _) | (with_reducible exact HI.pushT _ _) | (with_reducible exact HI.intT _) | (with_reducible exact HI.strT _) | (with_reducible exact HI.splitT _ _) | (with_reducible exact HI.joinT _ _) | (with_reducible exact HI.rngT _) | (with_reducible exact HI.rng2T _ _) | (with_reducible exact HI.isET _ _ _) | (with_reducible exact HI.addD _ _) | (with_reducible exact HI.ixD _ _) | (with_reducible exact HI.ixS _ _) | (with_reducible exact HI.lenD _) | (with_reducible exact HI.eqD _ _) | (with_reducible exact HI.neD _ _) | (with_reducible exact HI.inD _ _ _ _) | (with_reducible exact HI.countD _ _ _) | (with_reducible exact HI.sortT _ _) | (with_reducible exact HI.cast _ _) | (with_reducible exact HI.compP _ _ _) | (with_reducible exact HI.compM _ _) | (with_reducible apply HI.bind) | (with_reducible apply HI.ite) | (with_reducible apply HI.onN) | (with_reducible apply HI.go) | (with_reducible apply HI.calm) | (with_reducible apply HI.compT) | (with_reducible apply HI.for0) | (with_reducible apply HI.for_) | (with_reducible apply HI.while0) | (with_reducible apply HI.while_) | (with_reducible apply HI.tryT) | (with_reducible apply HI.hdT) | (with_reducible apply HI.guard) | intro _ | split
def F_version_numbers (value1 : D) : T (Option (Int × Int × Int)) := (T.bind (T.bind (T.opt (isiS "str" ((v tD) value1))) fun b => T.pure (!b)) fun b => if b then (T.pure (none : (Option (Int × Int × Int)))) else (T.bind (T.bind (cast tS value1) fun a2 => (splitT a2 z__)) fun parts3 => (if (!decide ((lnI parts3) = (3 : Int))) then (T.pure (none : (Option (Int × Int × Int)))) else (T.bind (T.bind (compT parts3 (fun part6 => (T.pure true)) (fun part6 => (F_number_of part6))) fun a8 => (T.pure a8)) fun numbers9 => (if (inX (tO tI) tN () numbers9) then (T.pure (none : (Option (Int × Int × Int)))) else (T.bind (cast tV3 ((tU (tO tI)).enc numbers9)) fun a11 => T.pure (some a11)))))))
theorem ok_F_version_numbers (value1 : D) : ∀ h, SE (v (tO tV3)) (run_version_numbers [(v tD) value1] h) (F_version_numbers value1 h) := by
  intro h
  refine run_se (m := 4) (fb := b_version_numbers) rfl ?_ h
  unfold b_version_numbers F_version_numbers
  exact (SJ.ifM (J.tNot (J.tTruB (J.isiP (fun _ => rfl)))) (SJ.retP (fun _ => rfl) rfl (fun _ => rfl)) (SJ.nil (SJ.set (J.s1M (J.castP (t := tS) (fun _ => rfl)) (PJ.sc ez__) (fun _ h => o_split _ _ h)) (fun _ => rfl) (fun parts3 => (SJ.ifP (PJ.tOf (PJ.bin (PJ.args (PA.cons (fun _ => rfl) PA.nil) (fun h4 => o_len (sqL (t := tS)) parts3 h4)) (fun _ => rfl) (fun h5 => o_nei (lnI parts3) (3 : Int) h5))) (SJ.retP (fun _ => rfl) rfl (fun _ => rfl)) (SJ.nil (SJ.set (J.args (ec := (v (tU (tO tI)))) (AC.m (ea := (v (tL (tO tI)))) (J.fz (J.compI (u := (tO tI)) (PJ.seq (fxL (t := tS)) (fun _ => rfl)) (fun part6 => ⟨_, rfl, (PJ.j (e := idB) pj_yes), (J.args (ec := (v (tO tI))) (AC.p (fun _ => rfl) (AC.nil (call_se rfl rfl (fun _ => rfl) (fun h => ok_F_number_of part6 h)))))⟩))) (fun a8 => (AC.nil (fun h7 => o_tuple (sqL (t := (tO tI))) a8 h7))))) (fun _ => rfl) (fun numbers9 => (SJ.ifP (PJ.tOf (PJ.bin (fun _ => rfl) (fun _ => rfl) (fun h10 => o_inF (u := tN) (sqU (t := (tO tI))) (by decide) (by decide) () numbers9 h10))) (SJ.retP (fun _ => rfl) rfl (fun _ => rfl)) (SJ.nil (SJ.one (SJ.retF (J.map (e := (v tV3)) (e' := (v (tO tV3))) (g := fun a11 => (some a11)) (J.castP (t := tV3) (fun _ => rfl)) (fun _ => rfl)) (fun _ => rfl)))))))))))))
theorem hi_F_version_numbers (a0 : D) : HI (F_version_numbers a0) := by
  unfold F_version_numbers
  repeat' first | (with_reducible exact HI.pure _) | (with_reducible exact HI.raise _) | (with_reducible exact HI.bad) | (with_reducible exact HI.opt _) | (with_reducible exact HI.ixT _ _) | (with_reducible exact HI.lenT _) | (with_reducible exact HI.slS _ _ _) | (with_reducible exact HI.slD _ _ _) | (with_reducible exact HI.ltT _ _ _ _) | (with_reducible exact HI.leT _ _ _ _) | (with_reducible exact HI.gtT _ _ _ _) | (with_reducible exact HI.geT _ _ _ _) | (with_reducible exact HI.modT _ _) | (with_reducible exact HI.mulT _ _) | (with_reducible exact HI.catT _ _) | (with_reducible exact HI.catS _ _) | (with_reducible exact HI.pushT _ _) | (with_reducible exact HI.intT _) | (with_reducible exact HI.strT _) | (with_reducible exact HI.splitT _ _) | (with_reducible exact HI.joinT _ _) | (with_reducible exact HI.rngT _) | (with_reducible exact HI.rng2T _ _) | (with_reducible exact HI.isET _ _ _) | (with_reducible exact HI.addD _ _) | (with_reducible exact HI.ixD _ _) | (with_reducible exact HI.ixS _ _) | (with_reducible exact HI.lenD _) | (with_reducible exact HI.eqD _ _) | (with_reducible exact HI.neD _ _) | (with_reducible exact HI.inD _ _ _ _) | (with_reducible exact HI.countD _ _ _) | (with_reducible exact HI.sortT _ _) | (with_reducible exact HI.cast _ _) | (with_reducible exact HI.compP _ _ _) | (with_reducible exact HI.compM _ _) | (with_reducible exact hi_F_number_of _) | (with_reducible apply HI.bind) | (with_reducible apply HI.ite) | (with_reducible apply HI.onN) | (with_reducible apply HI.go) | (with_reducible apply HI.calm) | (with_reducible apply HI.compT) | (with_reducible apply HI.for0) | (with_reducible apply HI.for_) | (with_reducible apply HI.while0) | (with_reducible apply HI.while_) | (with_reducible apply HI.tryT) | (with_reducible apply HI.hdT) | (with_reducible apply HI.guard) | intro _ | split
def F_law_stream (a0 : (List Int)) (a1 : Int) (a2 : Int) : T Nat := fun h => dyr (gCall run_law_stream [SV.scr a0, (v tI) a1, (v tI) a2] h)
def F_law_same (a0 : D) (a1 : D) : T Bool := fun h => dy tB (gPure (run_law_same 8) [(v tD) a0, (v tD) a1] h)
def F_law_version (stream_here1 : Nat) : T Str := (T.bind (F_law_next stream_here1 (6 : Int)) fun a4 => (ixT ([z_1_0_0, z_1_2_0, z_2_0_0, z_0_3_1, z_0_0_4, z_1_10_0] : List Str) a4))
theorem ok_F_law_version (stream_here1 : Nat) : ∀ h, SE (v tS) (run_law_version [SV.ref stream_here1] h) (F_law_version stream_here1 h) := by
  intro h
  refine run_se (m := 1) (fb := b_law_version) rfl ?_ h
  unfold b_law_version F_law_version
  exact (SJ.one (SJ.retF (J.binPM (eb := (v tI)) (ec := (v tS)) (PJ.args (PA.cons (PJ.sc ez_1_0_0) (PA.cons (PJ.sc ez_1_2_0) (PA.cons (PJ.sc ez_2_0_0) (PA.cons (PJ.sc ez_0_3_1) (PA.cons (PJ.sc ez_0_0_4) (PA.cons (PJ.sc ez_1_10_0) PA.nil)))))) (fun h2 => rfl)) (J.args (ec := (v tI)) (AC.p (fun _ => rfl) (AC.p (fun _ => rfl) (AC.nil (call_dy rfl))))) (fun a4 h3 => o_ix (sqL (t := tS)) ([z_1_0_0, z_1_2_0, z_2_0_0, z_0_3_1, z_0_0_4, z_1_10_0] : List Str) a4 h3)) (fun _ => rfl)))
def F_law_fits_one (numbers_here1 : (List Int)) (text2 : Str) : T Bool := (if (decide (text2 = z_star)) then (T.pure true) else (T.bind (T.bind (slS text2 none (some (2 : Int))) fun a5 => T.pure (decide (a5 = z_ge))) fun b => if b then (T.bind (T.bind (slS text2 (some (2 : Int)) none) fun a6 => (splitT a6 z_sl)) fun ends7 => (T.bind (T.bind (T.bind (ixT ends7 (0 : Int)) fun a9 => (F_law_numbers a9)) fun a11 => (leT (tL tI) (tL tI) a11 numbers_here1)) fun b => if b then (T.bind (T.bind (ixT ends7 (1 : Int)) fun a13 => (F_law_numbers a13)) fun a15 => (ltT (tL tI) (tL tI) numbers_here1 a15)) else T.pure false)) else (T.bind (T.bind (ixS text2 (0 : Int)) fun a19 => T.pure (!inX tS tS a19 ([z_u, z_t] : (List Str)))) fun b => if b then (T.bind (F_law_numbers text2) fun a21 => T.pure (eqX (tL tI) (tL tI) numbers_here1 a21)) else (T.bind (T.bind (slS text2 (some (1 : Int)) none) fun a22 => (F_law_numbers a22)) fun first23 => (T.bind (T.bind (ltT (tL tI) (tL tI) numbers_here1 first23) fun b => if b then T.pure true else (T.bind (ixT numbers_here1 (0 : Int)) fun a28 => T.bind (ixT first23 (0 : Int)) fun a29 => T.pure (!decide (a28 = a29)))) fun b => if b then (T.pure false) else (T.bind (T.bind (ixS text2 (0 : Int)) fun a32 => T.pure (decide (a32 = z_t))) fun b => if b then (T.bind (ixT numbers_here1 (1 : Int)) fun a36 => T.bind (ixT first23 (1 : Int)) fun a37 => T.pure (decide (a36 = a37))) else (T.bind (T.bind (ixT first23 (0 : Int)) fun a40 => T.pure (decide (a40 > (0 : Int)))) fun b => if b then (T.pure true) else (T.bind (T.bind (ixT numbers_here1 (1 : Int)) fun a44 => T.bind (ixT first23 (1 : Int)) fun a45 => T.pure (!decide (a44 = a45))) fun b => if b then (T.pure false) else (T.bind (T.bind (ixT first23 (1 : Int)) fun a48 => T.pure (decide (a48 > (0 : Int)))) fun b => if b then T.pure true else (T.bind (ixT numbers_here1 (2 : Int)) fun a52 => T.bind (ixT first23 (2 : Int)) fun a53 => T.pure (decide (a52 = a53))))))))))))
theorem ok_F_law_fits_one (numbers_here1 : (List Int)) (text2 : Str) : ∀ h, SE (v tB) (run_law_fits_one [(v (tL tI)) numbers_here1, (v tS) text2] h) (F_law_fits_one numbers_here1 text2 h) := by
  intro h
  refine run_se (m := 4) (fb := b_law_fits_one) rfl ?_ h
  unfold b_law_fits_one F_law_fits_one
  exact (SJ.ifP (PJ.tOf (PJ.bin (fun _ => rfl) (PJ.sc ez_star) (fun h3 => o_eqs text2 z_star h3))) (SJ.retP (fun _ => rfl) rfl (fun _ => rfl)) (SJ.nil (SJ.ifM (J.tOf (J.binMP (ea := (v tS)) (ec := (v tB)) (J.slP (fun _ => rfl) po_n (po_s (fun _ => rfl)) (fun h => o_slS _ _ _ h)) (PJ.sc ez_ge) (fun a5 h4 => o_eqs a5 z_ge h4))) (SJ.asc (SJ.set (J.s1M (J.slP (fun _ => rfl) (po_s (fun _ => rfl)) po_n (fun h => o_slS _ _ _ h)) (PJ.sc ez_sl) (fun _ h => o_split _ _ h)) (fun _ => rfl) (fun ends7 => (SJ.retF (J.andV (J.binMP (ea := (v (tL tI))) (ec := (v tB)) (J.args (ec := (v (tL tI))) (AC.m (ea := (v tS)) (J.binPP (ec := (v tS)) (fun _ => rfl) (fun _ => rfl) (fun h8 => o_ix (sqL (t := tS)) ends7 (0 : Int) h8)) (fun a9 => (AC.nil (call_se rfl rfl (fun _ => rfl) (fun h => ok_F_law_numbers a9 h)))))) (fun _ => rfl) (fun a11 h10 => o_le (t := (tL tI)) (u := (tL tI)) a11 numbers_here1 h10)) (J.binPM (eb := (v (tL tI))) (ec := (v tB)) (fun _ => rfl) (J.args (ec := (v (tL tI))) (AC.m (ea := (v tS)) (J.binPP (ec := (v tS)) (fun _ => rfl) (fun _ => rfl) (fun h12 => o_ix (sqL (t := tS)) ends7 (1 : Int) h12)) (fun a13 => (AC.nil (call_se rfl rfl (fun _ => rfl) (fun h => ok_F_law_numbers a13 h)))))) (fun a15 h14 => o_lt (t := (tL tI)) (u := (tL tI)) numbers_here1 a15 h14))) (fun _ => rfl))))) (SJ.nil (SJ.ifM (J.tOf (J.binMP (ea := (v tS)) (ec := (v tB)) (J.binPP (ec := (v tS)) (fun _ => rfl) (fun _ => rfl) (fun h16 => o_ixS text2 (0 : Int) h16)) (PJ.args (PA.cons (PJ.sc ez_u) (PA.cons (PJ.sc ez_t) PA.nil)) (fun h17 => rfl)) (fun a19 h18 => o_inT (u := tS) (sqL (t := tS)) (by decide) (by decide) a19 ([z_u, z_t] : (List Str)) h18))) (SJ.retF (J.binPM (eb := (v (tL tI))) (ec := (v tB)) (fun _ => rfl) (J.args (ec := (v (tL tI))) (AC.p (fun _ => rfl) (AC.nil (call_se rfl rfl (fun _ => rfl) (fun h => ok_F_law_numbers text2 h))))) (fun a21 h20 => o_eq (t := (tL tI)) (u := (tL tI)) (by decide) (by decide) numbers_here1 a21 h20)) (fun _ => rfl)) (SJ.nil (SJ.set (J.args (ec := (v (tL tI))) (AC.m (ea := (v tS)) (J.slP (fun _ => rfl) (po_s (fun _ => rfl)) po_n (fun h => o_slS _ _ _ h)) (fun a22 => (AC.nil (call_se rfl rfl (fun _ => rfl) (fun h => ok_F_law_numbers a22 h)))))) (fun _ => rfl) (fun first23 => (SJ.ifM (J.tOr (J.tOf (J.binPP (ec := (v tB)) (fun _ => rfl) (fun _ => rfl) (fun h24 => o_lt (t := (tL tI)) (u := (tL tI)) numbers_here1 first23 h24))) (J.tOf (J.binMM (ea := (v tI)) (eb := (v tI)) (ec := (v tB)) (J.binPP (ec := (v tI)) (fun _ => rfl) (fun _ => rfl) (fun h25 => o_ix (sqL (t := tI)) numbers_here1 (0 : Int) h25)) (J.binPP (ec := (v tI)) (fun _ => rfl) (fun _ => rfl) (fun h26 => o_ix (sqL (t := tI)) first23 (0 : Int) h26)) (fun a28 a29 h27 => o_nei a28 a29 h27)))) (SJ.retP (fun _ => rfl) rfl (fun _ => rfl)) (SJ.nil (SJ.ifM (J.tOf (J.binMP (ea := (v tS)) (ec := (v tB)) (J.binPP (ec := (v tS)) (fun _ => rfl) (fun _ => rfl) (fun h30 => o_ixS text2 (0 : Int) h30)) (PJ.sc ez_t) (fun a32 h31 => o_eqs a32 z_t h31))) (SJ.retF (J.binMM (ea := (v tI)) (eb := (v tI)) (ec := (v tB)) (J.binPP (ec := (v tI)) (fun _ => rfl) (fun _ => rfl) (fun h33 => o_ix (sqL (t := tI)) numbers_here1 (1 : Int) h33)) (J.binPP (ec := (v tI)) (fun _ => rfl) (fun _ => rfl) (fun h34 => o_ix (sqL (t := tI)) first23 (1 : Int) h34)) (fun a36 a37 h35 => o_eqi a36 a37 h35)) (fun _ => rfl)) (SJ.nil (SJ.ifM (J.tOf (J.binMP (ea := (v tI)) (ec := (v tB)) (J.binPP (ec := (v tI)) (fun _ => rfl) (fun _ => rfl) (fun h38 => o_ix (sqL (t := tI)) first23 (0 : Int) h38)) (fun _ => rfl) (fun a40 h39 => o_gti a40 (0 : Int) h39))) (SJ.retP (fun _ => rfl) rfl (fun _ => rfl)) (SJ.nil (SJ.ifM (J.tOf (J.binMM (ea := (v tI)) (eb := (v tI)) (ec := (v tB)) (J.binPP (ec := (v tI)) (fun _ => rfl) (fun _ => rfl) (fun h41 => o_ix (sqL (t := tI)) numbers_here1 (1 : Int) h41)) (J.binPP (ec := (v tI)) (fun _ => rfl) (fun _ => rfl) (fun h42 => o_ix (sqL (t := tI)) first23 (1 : Int) h42)) (fun a44 a45 h43 => o_nei a44 a45 h43))) (SJ.retP (fun _ => rfl) rfl (fun _ => rfl)) (SJ.nil (SJ.one (SJ.retF (J.orV (J.binMP (ea := (v tI)) (ec := (v tB)) (J.binPP (ec := (v tI)) (fun _ => rfl) (fun _ => rfl) (fun h46 => o_ix (sqL (t := tI)) first23 (1 : Int) h46)) (fun _ => rfl) (fun a48 h47 => o_gti a48 (0 : Int) h47)) (J.binMM (ea := (v tI)) (eb := (v tI)) (ec := (v tB)) (J.binPP (ec := (v tI)) (fun _ => rfl) (fun _ => rfl) (fun h49 => o_ix (sqL (t := tI)) numbers_here1 (2 : Int) h49)) (J.binPP (ec := (v tI)) (fun _ => rfl) (fun _ => rfl) (fun h50 => o_ix (sqL (t := tI)) first23 (2 : Int) h50)) (fun a52 a53 h51 => o_eqi a52 a53 h51))) (fun _ => rfl)))))))))))))))))))
theorem hi_F_law_fits_one (a0 : (List Int)) (a1 : Str) : HI (F_law_fits_one a0 a1) := by
  unfold F_law_fits_one
  repeat' first | (with_reducible exact HI.pure _) | (with_reducible exact HI.raise _) | (with_reducible exact HI.bad) | (with_reducible exact HI.opt _) | (with_reducible exact HI.ixT _ _) | (with_reducible exact HI.lenT _) | (with_reducible exact HI.slS _ _ _) | (with_reducible exact HI.slD _ _ _) | (with_reducible exact HI.ltT _ _ _ _) | (with_reducible exact HI.leT _ _ _ _) | (with_reducible exact HI.gtT _ _ _ _) | (with_reducible exact HI.geT _ _ _ _) | (with_reducible exact HI.modT _ _) | (with_reducible exact HI.mulT _ _) | (with_reducible exact HI.catT _ _) | (with_reducible exact HI.catS _ _) | (with_reducible exact HI.pushT _ _) | (with_reducible exact HI.intT _) | (with_reducible exact HI.strT _) | (with_reducible exact HI.splitT _ _) | (with_reducible exact HI.joinT _ _) | (with_reducible exact HI.rngT _) | (with_reducible exact HI.rng2T _ _) | (with_reducible exact HI.isET _ _ _) | (with_reducible exact HI.addD _ _) | (with_reducible exact HI.ixD _ _) | (with_reducible exact HI.ixS _ _) | (with_reducible exact HI.lenD _) | (with_reducible exact HI.eqD _ _) | (with_reducible exact HI.neD _ _) | (with_reducible exact HI.inD _ _ _ _) | (with_reducible exact HI.countD _ _ _) | (with_reducible exact HI.sortT _ _) | (with_reducible exact HI.cast _ _) | (with_reducible exact HI.compP _ _ _) | (with_reducible exact HI.compM _ _) | (with_reducible exact hi_F_law_numbers _) | (with_reducible apply HI.bind) | (with_reducible apply HI.ite) | (with_reducible apply HI.onN) | (with_reducible apply HI.go) | (with_reducible apply HI.calm) | (with_reducible apply HI.compT) | (with_reducible apply HI.for0) | (with_reducible apply HI.for_) | (with_reducible apply HI.while0) | (with_reducible apply HI.while_) | (with_reducible apply HI.tryT) | (with_reducible apply HI.hdT) | (with_reducible apply HI.guard) | intro _ | split
def F_span_between (text1 : Str) : T (Option ((Int × Int × Int) × (Option (Int × Int × Int)))) := (T.bind (T.bind (slS text1 (some (2 : Int)) none) fun a2 => (splitT a2 z_sl)) fun parts3 => (if (!decide ((lnI parts3) = (2 : Int))) then (T.pure (none : (Option ((Int × Int × Int) × (Option (Int × Int × Int)))))) else (T.bind (T.bind (T.bind (ixT parts3 (0 : Int)) fun a7 => T.pure (tS.enc a7)) fun a8 => (F_version_numbers a8)) fun first12 => T.bind (T.bind (T.bind (ixT parts3 (1 : Int)) fun a10 => T.pure (tS.enc a10)) fun a11 => (F_version_numbers a11)) fun bound13 => (T.bind (if (isNE (tO tV3) first12) then T.pure true else (if (isNE (tO tV3) bound13) then T.pure true else (T.bind (ltT (tO tV3) (tO tV3) first12 bound13) fun b => T.pure (!b)))) fun b => if b then (T.pure (none : (Option ((Int × Int × Int) × (Option (Int × Int × Int)))))) else (T.bind (T.bind (T.opt first12) fun a19 => (T.pure (a19, bound13))) fun a20 => T.pure (some a20))))))
theorem ok_F_span_between (text1 : Str) : ∀ h, SE (v (tO tSpan)) (run_span_between [(v tS) text1] h) (F_span_between text1 h) := by
  intro h
  refine run_se (m := 4) (fb := b_span_between) rfl ?_ h
  unfold b_span_between F_span_between
  exact (SJ.set (J.s1M (J.slP (fun _ => rfl) (po_s (fun _ => rfl)) po_n (fun h => o_slS _ _ _ h)) (PJ.sc ez_sl) (fun _ h => o_split _ _ h)) (fun _ => rfl) (fun parts3 => (SJ.ifP (PJ.tOf (PJ.bin (PJ.args (PA.cons (fun _ => rfl) PA.nil) (fun h4 => o_len (sqL (t := tS)) parts3 h4)) (fun _ => rfl) (fun h5 => o_nei (lnI parts3) (2 : Int) h5))) (SJ.retP (fun _ => rfl) rfl (fun _ => rfl)) (SJ.nil (SJ.parM (J.args (ec := (v (tO tV3))) (AC.m (ea := (v tD)) (J.map (e := (v tS)) (e' := (v tD)) (g := fun a7 => (tS.enc a7)) (J.binPP (ec := (v tS)) (fun _ => rfl) (fun _ => rfl) (fun h6 => o_ix (sqL (t := tS)) parts3 (0 : Int) h6)) (fun _ => rfl)) (fun a8 => (AC.nil (call_se rfl rfl (fun _ => rfl) (fun h => ok_F_version_numbers a8 h)))))) (J.args (ec := (v (tO tV3))) (AC.m (ea := (v tD)) (J.map (e := (v tS)) (e' := (v tD)) (g := fun a10 => (tS.enc a10)) (J.binPP (ec := (v tS)) (fun _ => rfl) (fun _ => rfl) (fun h9 => o_ix (sqL (t := tS)) parts3 (1 : Int) h9)) (fun _ => rfl)) (fun a11 => (AC.nil (call_se rfl rfl (fun _ => rfl) (fun h => ok_F_version_numbers a11 h)))))) (fun _ => rfl) (fun _ => rfl) (fun first12 bound13 => (SJ.ifM (J.tOrP (PJ.tOf (PJ.bin (fun _ => rfl) (fun _ => rfl) (fun h14 => o_isF (t := (tO tV3)) first12 h14))) (J.tOrP (PJ.tOf (PJ.bin (fun _ => rfl) (fun _ => rfl) (fun h15 => o_isF (t := (tO tV3)) bound13 h15))) (J.tNot (J.tOf (J.binPP (ec := (v tB)) (fun _ => rfl) (fun _ => rfl) (fun h16 => o_lt (t := (tO tV3)) (u := (tO tV3)) first12 bound13 h16)))))) (SJ.retP (fun _ => rfl) rfl (fun _ => rfl)) (SJ.nil (SJ.one (SJ.retF (J.map (e := (v tSpan)) (e' := (v (tO tSpan))) (g := fun a20 => (some a20)) (J.args (ec := (v tSpan)) (AC.m (ea := (v tV3)) (J.unopt (t := tV3) (fun _ => rfl)) (fun a19 => (AC.p (fun _ => rfl) (AC.nil (fun h18 => rfl)))))) (fun _ => rfl)) (fun _ => rfl)))))))))))
theorem hi_F_span_between (a0 : Str) : HI (F_span_between a0) := by
  unfold F_span_between
  repeat' first | (with_reducible exact HI.pure _) | (with_reducible exact HI.raise _) | (with_reducible exact HI.bad) | (with_reducible exact HI.opt _) | (with_reducible exact HI.ixT _ _) | (with_reducible exact HI.lenT _) | (with_reducible exact HI.slS _ _ _) | (with_reducible exact HI.slD _ _ _) | (with_reducible exact HI.ltT _ _ _ _) | (with_reducible exact HI.leT _ _ _ _) | (with_reducible exact HI.gtT _ _ _ _) | (with_reducible exact HI.geT _ _ _ _) | (with_reducible exact HI.modT _ _) | (with_reducible exact HI.mulT _ _) | (with_reducible exact HI.catT _ _) | (with_reducible exact HI.catS _ _) | (with_reducible exact HI.pushT _ _) | (with_reducible exact HI.intT _) | (with_reducible exact HI.strT _) | (with_reducible exact HI.splitT _ _) | (with_reducible exact HI.joinT _ _) | (with_reducible exact HI.rngT _) | (with_reducible exact HI.rng2T _ _) | (with_reducible exact HI.isET _ _ _) | (with_reducible exact HI.addD _ _) | (with_reducible exact HI.ixD _ _) | (with_reducible exact HI.ixS _ _) | (with_reducible exact HI.lenD _) | (with_reducible exact HI.eqD _ _) | (with_reducible exact HI.neD _ _) | (with_reducible exact HI.inD _ _ _ _) | (with_reducible exact HI.countD _ _ _) | (with_reducible exact HI.sortT _ _) | (with_reducible exact HI.cast _ _) | (with_reducible exact HI.compP _ _ _) | (with_reducible exact HI.compM _ _) | (with_reducible exact hi_F_version_numbers _) | (with_reducible apply HI.bind) | (with_reducible apply HI.ite) | (with_reducible apply HI.onN) | (with_reducible apply HI.go) | (with_reducible apply HI.calm) | (with_reducible apply HI.compT) | (with_reducible apply HI.for0) | (with_reducible apply HI.for_) | (with_reducible apply HI.while0) | (with_reducible apply HI.while_) | (with_reducible apply HI.tryT) | (with_reducible apply HI.hdT) | (with_reducible apply HI.guard) | intro _ | split
def F_is_version (value1 : D) : T Bool := (T.bind (F_version_numbers value1) fun a3 => T.pure (!(isNE (tO tV3) a3)))
theorem ok_F_is_version (value1 : D) : ∀ h, SE (v tB) (run_is_version [(v tD) value1] h) (F_is_version value1 h) := by
  intro h
  refine run_se (m := 1) (fb := b_is_version) rfl ?_ h
  unfold b_is_version F_is_version
  exact (SJ.one (SJ.retF (J.binMP (ea := (v (tO tV3))) (ec := (v tB)) (J.args (ec := (v (tO tV3))) (AC.p (fun _ => rfl) (AC.nil (call_se rfl rfl (fun _ => rfl) (fun h => ok_F_version_numbers value1 h))))) (fun _ => rfl) (fun a3 h2 => o_isT (t := (tO tV3)) a3 h2)) (fun _ => rfl)))
theorem hi_F_is_version (a0 : D) : HI (F_is_version a0) := by
  unfold F_is_version
  repeat' first | (with_reducible exact HI.pure _) | (with_reducible exact HI.raise _) | (with_reducible exact HI.bad) | (with_reducible exact HI.opt _) | (with_reducible exact HI.ixT _ _) | (with_reducible exact HI.lenT _) | (with_reducible exact HI.slS _ _ _) | (with_reducible exact HI.slD _ _ _) | (with_reducible exact HI.ltT _ _ _ _) | (with_reducible exact HI.leT _ _ _ _) | (with_reducible exact HI.gtT _ _ _ _) | (with_reducible exact HI.geT _ _ _ _) | (with_reducible exact HI.modT _ _) | (with_reducible exact HI.mulT _ _) | (with_reducible exact HI.catT _ _) | (with_reducible exact HI.catS _ _) | (with_reducible exact HI.pushT _ _) | (with_reducible exact HI.intT _) | (with_reducible exact HI.strT _) | (with_reducible exact HI.splitT _ _) | (with_reducible exact HI.joinT _ _) | (with_reducible exact HI.rngT _) | (with_reducible exact HI.rng2T _ _) | (with_reducible exact HI.isET _ _ _) | (with_reducible exact HI.addD _ _) | (with_reducible exact HI.ixD _ _) | (with_reducible exact HI.ixS _ _) | (with_reducible exact HI.lenD _) | (with_reducible exact HI.eqD _ _) | (with_reducible exact HI.neD _ _) | (with_reducible exact HI.inD _ _ _ _) | (with_reducible exact HI.countD _ _ _) | (with_reducible exact HI.sortT _ _) | (with_reducible exact HI.cast _ _) | (with_reducible exact HI.compP _ _ _) | (with_reducible exact HI.compM _ _) | (with_reducible exact hi_F_version_numbers _) | (with_reducible apply HI.bind) | (with_reducible apply HI.ite) | (with_reducible apply HI.onN) | (with_reducible apply HI.go) | (with_reducible apply HI.calm) | (with_reducible apply HI.compT) | (with_reducible apply HI.for0) | (with_reducible apply HI.for_) | (with_reducible apply HI.while0) | (with_reducible apply HI.while_) | (with_reducible apply HI.tryT) | (with_reducible apply HI.hdT) | (with_reducible apply HI.guard) | intro _ | split
def F_law_alternative (stream_here1 : Nat) : T Str := (T.bind (F_law_next stream_here1 (8 : Int)) fun kind_here2 => (if (decide (kind_here2 ≤ (2 : Int))) then (T.pure z_star) else (if (decide (kind_here2 ≤ (5 : Int))) then (T.bind (F_law_version stream_here1) fun a6 => (catS z_u a6)) else (if (decide (kind_here2 = (6 : Int))) then (T.bind (T.bind (F_law_next stream_here1 (2 : Int)) fun a10 => (ixT ([z_empty, z_t] : List Str) a10)) fun a12 => T.bind (F_law_version stream_here1) fun a13 => (catS a12 a13)) else (T.bind (F_law_next stream_here1 (3 : Int)) fun a16 => (ixT ([z_ge1_0_0sl2_0_0, z_ge0_0_0sl1_0_1, z_ge1_1_0sl999_0_0] : List Str) a16))))))
theorem ok_F_law_alternative (stream_here1 : Nat) : ∀ h, SE (v tS) (run_law_alternative [SV.ref stream_here1] h) (F_law_alternative stream_here1 h) := by
  intro h
  refine run_se (m := 2) (fb := b_law_alternative) rfl ?_ h
  unfold b_law_alternative F_law_alternative
  exact (SJ.set (J.args (ec := (v tI)) (AC.p (fun _ => rfl) (AC.p (fun _ => rfl) (AC.nil (call_dy rfl))))) (fun _ => rfl) (fun kind_here2 => (SJ.ifP (PJ.tOf (PJ.bin (fun _ => rfl) (fun _ => rfl) (fun h3 => o_lei kind_here2 (2 : Int) h3))) (SJ.retP (PJ.sc ez_star) rfl (fun _ => rfl)) (SJ.nil (SJ.ifP (PJ.tOf (PJ.bin (fun _ => rfl) (fun _ => rfl) (fun h4 => o_lei kind_here2 (5 : Int) h4))) (SJ.retF (J.binPM (eb := (v tS)) (ec := (v tS)) (PJ.sc ez_u) (J.args (ec := (v tS)) (AC.p (fun _ => rfl) (AC.nil (call_se rfl rfl (fun _ => rfl) (fun h => ok_F_law_version stream_here1 h))))) (fun a6 h5 => o_catS z_u a6 h5)) (fun _ => rfl)) (SJ.nil (SJ.ifP (PJ.tOf (PJ.bin (fun _ => rfl) (fun _ => rfl) (fun h7 => o_eqi kind_here2 (6 : Int) h7))) (SJ.retF (J.binMM (ea := (v tS)) (eb := (v tS)) (ec := (v tS)) (J.binPM (eb := (v tI)) (ec := (v tS)) (PJ.args (PA.cons (PJ.sc ez_empty) (PA.cons (PJ.sc ez_t) PA.nil)) (fun h8 => rfl)) (J.args (ec := (v tI)) (AC.p (fun _ => rfl) (AC.p (fun _ => rfl) (AC.nil (call_dy rfl))))) (fun a10 h9 => o_ix (sqL (t := tS)) ([z_empty, z_t] : List Str) a10 h9)) (J.args (ec := (v tS)) (AC.p (fun _ => rfl) (AC.nil (call_se rfl rfl (fun _ => rfl) (fun h => ok_F_law_version stream_here1 h))))) (fun a12 a13 h11 => o_catS a12 a13 h11)) (fun _ => rfl)) (SJ.nil (SJ.one (SJ.retF (J.binPM (eb := (v tI)) (ec := (v tS)) (PJ.args (PA.cons (PJ.sc ez_ge1_0_0sl2_0_0) (PA.cons (PJ.sc ez_ge0_0_0sl1_0_1) (PA.cons (PJ.sc ez_ge1_1_0sl999_0_0) PA.nil))) (fun h14 => rfl)) (J.args (ec := (v tI)) (AC.p (fun _ => rfl) (AC.p (fun _ => rfl) (AC.nil (call_dy rfl))))) (fun a16 h15 => o_ix (sqL (t := tS)) ([z_ge1_0_0sl2_0_0, z_ge0_0_0sl1_0_1, z_ge1_1_0sl999_0_0] : List Str) a16 h15)) (fun _ => rfl)))))))))))
def F_law_fits (version_here1 : Str) (wanted2 : Str) : T Bool := (T.bind (splitT wanted2 z_sbbs) fun l8 => T.bind (forT (fun part6 => (fun (_ : Unit) => (T.bind (T.bind (F_law_numbers version_here1) fun a7 => (F_law_fits_one a7 part6)) fun b => if b then (T.pure (Lp.out true)) else (T.pure (Lp.nx ()))))) l8 ()) (Jn.go (fun (_ : Unit) => (T.pure false))))
theorem ok_F_law_fits (version_here1 : Str) (wanted2 : Str) : ∀ h, SE (v tB) (run_law_fits [(v tS) version_here1, (v tS) wanted2] h) (F_law_fits version_here1 wanted2 h) := by
  intro h
  refine run_se (m := 3) (fb := b_law_fits) rfl ?_ h
  unfold b_law_fits F_law_fits l_law_fits_1
  exact (SJ.for_ (E := (fun (_ : Unit) (ds : DS) => ∃ j3 : Option SV, okJ j3 ∧ ds = [(some ((v tS) version_here1)), (some ((v tS) wanted2)), j3])) (J.seq (fxL (t := tS)) (J.s1 (fun _ => rfl) (PJ.sc ez_sbbs) (fun h => o_split _ _ h))) ⟨none, trivial, rfl⟩ (fun part6 => (fun _ ds hE => by obtain ⟨j3, hj3, rfl⟩ := hE; exact ⟨_, rfl, (SJ.one (SJ.ifM (J.tTruB (J.args (ec := (v tB)) (AC.m (ea := (v (tL tI))) (J.args (ec := (v (tL tI))) (AC.p (fun _ => rfl) (AC.nil (call_se rfl rfl (fun _ => rfl) (fun h => ok_F_law_numbers version_here1 h))))) (fun a7 => (AC.p (fun _ => rfl) (AC.nil (call_se rfl rfl (fun _ => rfl) (fun h => ok_F_law_fits_one a7 part6 h)))))))) (SJ.retP (fun _ => rfl) rfl (fun _ => ⟨_, rfl, rfl⟩)) (SJ.nil (SJ.end_ (fun _ => ⟨_, ⟨(some ((v tS) part6)), trivial, rfl⟩, Or.inl rfl⟩)))))⟩)) (fun _ ds hE => by obtain ⟨j3, hj3, rfl⟩ := hE; exact (SJ.one (SJ.retP (fun _ => rfl) rfl (fun _ => rfl)))))
theorem hi_F_law_fits (a0 : Str) (a1 : Str) : HI (F_law_fits a0 a1) := by
  unfold F_law_fits
  repeat' first | (with_reducible exact HI.pure _) | (with_reducible exact HI.raise _) | (with_reducible exact HI.bad) | (with_reducible exact HI.opt _) | (with_reducible exact HI.ixT _ _) | (with_reducible exact HI.lenT _) | (with_reducible exact HI.slS _ _ _) | (with_reducible exact HI.slD _ _ _) | (with_reducible exact HI.ltT _ _ _ _) | (with_reducible exact HI.leT _ _ _ _) | (with_reducible exact HI.gtT _ _ _ _) | (with_reducible exact HI.geT _ _ _ _) | (with_reducible exact HI.modT _ _) | (with_reducible exact HI.mulT _ _) | (with_reducible exact HI.catT _ _) | (with_reducible exact HI.catS _ _) | (with_reducible exact HI.pushT _ _) | (with_reducible exact HI.intT _) | (with_reducible exact HI.strT _) | (with_reducible exact HI.splitT _ _) | (with_reducible exact HI.joinT _ _) | (with_reducible exact HI.rngT _) | (with_reducible exact HI.rng2T _ _) | (with_reducible exact HI.isET _ _ _) | (with_reducible exact HI.addD _ _) | (with_reducible exact HI.ixD _ _) | (with_reducible exact HI.ixS _ _) | (with_reducible exact HI.lenD _) | (with_reducible exact HI.eqD _ _) | (with_reducible exact HI.neD _ _) | (with_reducible exact HI.inD _ _ _ _) | (with_reducible exact HI.countD _ _ _) | (with_reducible exact HI.sortT _ _) | (with_reducible exact HI.cast _ _) | (with_reducible exact HI.compP _ _ _) | (with_reducible exact HI.compM _ _) | (with_reducible exact hi_F_law_fits_one _ _) | (with_reducible exact hi_F_law_numbers _) | (with_reducible apply HI.bind) | (with_reducible apply HI.ite) | (with_reducible apply HI.onN) | (with_reducible apply HI.go) | (with_reducible apply HI.calm) | (with_reducible apply HI.compT) | (with_reducible apply HI.for0) | (with_reducible apply HI.for_) | (with_reducible apply HI.while0) | (with_reducible apply HI.while_) | (with_reducible apply HI.tryT) | (with_reducible apply HI.hdT) | (with_reducible apply HI.guard) | intro _ | split
def F_span_of (text1 : Str) : T (Option ((Int × Int × Int) × (Option (Int × Int × Int)))) := (if (decide (text1 = z_star)) then (T.pure (some (((0 : Int), (0 : Int), (0 : Int)), (none : (Option (Int × Int × Int)))))) else (T.bind (T.pure (Txt.startswith text1 z_ge)) fun b => if b then (F_span_between text1) else (T.bind (T.bind (T.bind (T.bind (slS text1 none (some (1 : Int))) fun a9 => T.pure (inX tS tS a9 ([z_u, z_t] : (List Str)))) fun b => if b then (T.bind (slS text1 (some (1 : Int)) none) fun a10 => T.pure (tS.enc a10)) else (T.pure (tS.enc text1))) fun a11 => (F_version_numbers a11)) fun numbers12 => (onN numbers12 (T.pure (none : (Option ((Int × Int × Int) × (Option (Int × Int × Int)))))) (fun numbers14 => (T.bind (T.bind (ixS text1 (0 : Int)) fun a17 => T.pure (decide (a17 = z_u))) fun b => if b then (T.bind (T.bind (T.bind (F_next_major numbers14) fun a18 => T.pure (some a18)) fun a21 => (T.pure (numbers14, a21))) fun a22 => T.pure (some a22)) else (T.bind (T.bind (ixS text1 (0 : Int)) fun a25 => T.pure (decide (a25 = z_t))) fun b => if b then (T.pure (some (numbers14, (some (numbers14.1, (numbers14.2.1 + (1 : Int)), (0 : Int)))))) else (T.pure (some (numbers14, (some (numbers14.1, numbers14.2.1, (numbers14.2.2 + (1 : Int))))))))))))))
theorem ok_F_span_of (text1 : Str) : ∀ h, SE (v (tO tSpan)) (run_span_of [(v tS) text1] h) (F_span_of text1 h) := by
  intro h
  refine run_se (m := 2) (fb := b_span_of) rfl ?_ h
  unfold b_span_of F_span_of
  exact (SJ.ifP (PJ.tOf (PJ.bin (fun _ => rfl) (PJ.sc ez_star) (fun h2 => o_eqs text1 z_star h2))) (SJ.retP (PJ.args (PA.cons (PJ.args (PA.cons (fun _ => rfl) (PA.cons (fun _ => rfl) (PA.cons (fun _ => rfl) PA.nil))) (fun h4 => rfl)) (PA.cons (fun _ => rfl) PA.nil)) (fun h6 => rfl)) rfl (fun _ => rfl)) (SJ.nil (SJ.ifM (J.tTruB (J.s1 (fun _ => rfl) (PJ.sc ez_ge) (fun h => o_starts _ _ h))) (SJ.retF (J.args (ec := (v (tO tSpan))) (AC.p (fun _ => rfl) (AC.nil (call_se rfl rfl (fun _ => rfl) (fun h => ok_F_span_between text1 h))))) (fun _ => rfl)) (SJ.nil (SJ.set (J.args (ec := (v (tO tV3))) (AC.m (ea := (v tD)) (J.ife (J.tOf (J.binMP (ea := (v tS)) (ec := (v tB)) (J.slP (fun _ => rfl) po_n (po_s (fun _ => rfl)) (fun h => o_slS _ _ _ h)) (PJ.args (PA.cons (PJ.sc ez_u) (PA.cons (PJ.sc ez_t) PA.nil)) (fun h7 => rfl)) (fun a9 h8 => o_inF (u := tS) (sqU (t := tS)) (by decide) (by decide) a9 ([z_u, z_t] : (List Str)) h8))) (J.map (e := (v tS)) (e' := (v tD)) (g := fun a10 => (tS.enc a10)) (J.slP (fun _ => rfl) (po_s (fun _ => rfl)) po_n (fun h => o_slS _ _ _ h)) (fun _ => rfl)) (PJ.j (e := (v tD)) (fun _ => rfl))) (fun a11 => (AC.nil (call_se rfl rfl (fun _ => rfl) (fun h => ok_F_version_numbers a11 h)))))) (fun _ => rfl) (fun numbers12 => (SJ.ifN (u := tV3) (PJ.tOf (PJ.bin (fun _ => rfl) (fun _ => rfl) (fun h13 => o_isF (t := (tO tV3)) numbers12 h13))) (fun _ => rfl) (fun e => by subst e; exact (SJ.retP (fun _ => rfl) rfl (fun _ => rfl))) (fun numbers14 e => by subst e; exact (SJ.nil (SJ.ifM (J.tOf (J.binMP (ea := (v tS)) (ec := (v tB)) (J.binPP (ec := (v tS)) (fun _ => rfl) (fun _ => rfl) (fun h15 => o_ixS text1 (0 : Int) h15)) (PJ.sc ez_u) (fun a17 h16 => o_eqs a17 z_u h16))) (SJ.retF (J.map (e := (v tSpan)) (e' := (v (tO tSpan))) (g := fun a22 => (some a22)) (J.args (ec := (v tSpan)) (AC.p (fun _ => rfl) (AC.m (ea := (v (tO tV3))) (J.map (e := (v tV3)) (e' := (v (tO tV3))) (g := fun a18 => (some a18)) (J.args (ec := (v tV3)) (AC.p (fun _ => rfl) (AC.nil (call_se rfl rfl (fun _ => rfl) (fun h => ok_F_next_major numbers14 h))))) (fun _ => rfl)) (fun a21 => (AC.nil (fun h20 => rfl)))))) (fun _ => rfl)) (fun _ => rfl)) (SJ.nil (SJ.ifM (J.tOf (J.binMP (ea := (v tS)) (ec := (v tB)) (J.binPP (ec := (v tS)) (fun _ => rfl) (fun _ => rfl) (fun h23 => o_ixS text1 (0 : Int) h23)) (PJ.sc ez_t) (fun a25 h24 => o_eqs a25 z_t h24))) (SJ.retP (PJ.args (PA.cons (fun _ => rfl) (PA.cons (PJ.args (PA.cons (PJ.bin (fun _ => rfl) (fun _ => rfl) (fun h26 => rfl)) (PA.cons (PJ.bin (PJ.bin (fun _ => rfl) (fun _ => rfl) (fun h27 => rfl)) (fun _ => rfl) (fun h28 => o_add numbers14.2.1 (1 : Int) h28)) (PA.cons (fun _ => rfl) PA.nil))) (fun h30 => rfl)) PA.nil)) (fun h32 => rfl)) rfl (fun _ => rfl)) (SJ.nil (SJ.one (SJ.retP (PJ.args (PA.cons (fun _ => rfl) (PA.cons (PJ.args (PA.cons (PJ.bin (fun _ => rfl) (fun _ => rfl) (fun h33 => rfl)) (PA.cons (PJ.bin (fun _ => rfl) (fun _ => rfl) (fun h34 => rfl)) (PA.cons (PJ.bin (PJ.bin (fun _ => rfl) (fun _ => rfl) (fun h35 => rfl)) (fun _ => rfl) (fun h36 => o_add numbers14.2.2 (1 : Int) h36)) PA.nil))) (fun h38 => rfl)) PA.nil)) (fun h40 => rfl)) rfl (fun _ => rfl))))))))))))))))
theorem hi_F_span_of (a0 : Str) : HI (F_span_of a0) := by
  unfold F_span_of
  repeat' first | (with_reducible exact HI.pure _) | (with_reducible exact HI.raise _) | (with_reducible exact HI.bad) | (with_reducible exact HI.opt _) | (with_reducible exact HI.ixT _ _) | (with_reducible exact HI.lenT _) | (with_reducible exact HI.slS _ _ _) | (with_reducible exact HI.slD _ _ _) | (with_reducible exact HI.ltT _ _ _ _) | (with_reducible exact HI.leT _ _ _ _) | (with_reducible exact HI.gtT _ _ _ _) | (with_reducible exact HI.geT _ _ _ _) | (with_reducible exact HI.modT _ _) | (with_reducible exact HI.mulT _ _) | (with_reducible exact HI.catT _ _) | (with_reducible exact HI.catS _ _) | (with_reducible exact HI.pushT _ _) | (with_reducible exact HI.intT _) | (with_reducible exact HI.strT _) | (with_reducible exact HI.splitT _ _) | (with_reducible exact HI.joinT _ _) | (with_reducible exact HI.rngT _) | (with_reducible exact HI.rng2T _ _) | (with_reducible exact HI.isET _ _ _) | (with_reducible exact HI.addD _ _) | (with_reducible exact HI.ixD _ _) | (with_reducible exact HI.ixS _ _) | (with_reducible exact HI.lenD _) | (with_reducible exact HI.eqD _ _) | (with_reducible exact HI.neD _ _) | (with_reducible exact HI.inD _ _ _ _) | (with_reducible exact HI.countD _ _ _) | (with_reducible exact HI.sortT _ _) | (with_reducible exact HI.cast _ _) | (with_reducible exact HI.compP _ _ _) | (with_reducible exact HI.compM _ _) | (with_reducible exact hi_F_span_between _) | (with_reducible exact hi_F_version_numbers _) | (with_reducible exact hi_F_next_major _) | (with_reducible apply HI.bind) | (with_reducible apply HI.ite) | (with_reducible apply HI.onN) | (with_reducible apply HI.go) | (with_reducible apply HI.calm) | (with_reducible apply HI.compT) | (with_reducible apply HI.for0) | (with_reducible apply HI.for_) | (with_reducible apply HI.while0) | (with_reducible apply HI.while_) | (with_reducible apply HI.tryT) | (with_reducible apply HI.hdT) | (with_reducible apply HI.guard) | intro _ | split
def F_law_range (stream_here1 : Nat) : T Str := (T.bind (T.bind (F_law_next stream_here1 (6 : Int)) fun a3 => T.pure (decide (a3 = (0 : Int)))) fun b => if b then (T.bind (T.bind (F_law_alternative stream_here1) fun a5 => (catS a5 z_sbbs)) fun a7 => T.bind (F_law_alternative stream_here1) fun a8 => (catS a7 a8)) else (F_law_alternative stream_here1))
theorem ok_F_law_range (stream_here1 : Nat) : ∀ h, SE (v tS) (run_law_range [SV.ref stream_here1] h) (F_law_range stream_here1 h) := by
  intro h
  refine run_se (m := 1) (fb := b_law_range) rfl ?_ h
  unfold b_law_range F_law_range
  exact (SJ.ifM (J.tOf (J.binMP (ea := (v tI)) (ec := (v tB)) (J.args (ec := (v tI)) (AC.p (fun _ => rfl) (AC.p (fun _ => rfl) (AC.nil (call_dy rfl))))) (fun _ => rfl) (fun a3 h2 => o_eqi a3 (0 : Int) h2))) (SJ.retF (J.binMM (ea := (v tS)) (eb := (v tS)) (ec := (v tS)) (J.binMP (ea := (v tS)) (ec := (v tS)) (J.args (ec := (v tS)) (AC.p (fun _ => rfl) (AC.nil (call_se rfl rfl (fun _ => rfl) (fun h => ok_F_law_alternative stream_here1 h))))) (PJ.sc ez_sbbs) (fun a5 h4 => o_catS a5 z_sbbs h4)) (J.args (ec := (v tS)) (AC.p (fun _ => rfl) (AC.nil (call_se rfl rfl (fun _ => rfl) (fun h => ok_F_law_alternative stream_here1 h))))) (fun a7 a8 h6 => o_catS a7 a8 h6)) (fun _ => rfl)) (SJ.nil (SJ.one (SJ.retF (J.args (ec := (v tS)) (AC.p (fun _ => rfl) (AC.nil (call_se rfl rfl (fun _ => rfl) (fun h => ok_F_law_alternative stream_here1 h))))) (fun _ => rfl)))))
def F_law_kept (packages_here1 : (List (Str × Str × (List (Str × Str)) × (List (Str × Str))))) (lock2 : (List (Str × Str × Str))) (need3 : (Str × Str)) : T (Option Str) := (T.bind (T.pure lock2) fun l19 => T.bind (forT (fun p13 => (fun (_ : Unit) => (T.bind (if (eqX tDep tDep (p13.1, p13.2.1) need3) then (T.bind (F_law_fits p13.2.2 p13.2.1) fun b => if b then (T.bind (F_law_find packages_here1 p13.1 p13.2.2) fun a18 => T.pure (!(isNE (tO tMan) a18))) else T.pure false) else T.pure false) fun b => if b then (T.pure (Lp.out (some p13.2.2))) else (T.pure (Lp.nx ()))))) l19 ()) (Jn.go (fun (_ : Unit) => (T.pure (none : (Option Str))))))
theorem ok_F_law_kept (packages_here1 : (List (Str × Str × (List (Str × Str)) × (List (Str × Str))))) (lock2 : (List (Str × Str × Str))) (need3 : (Str × Str)) : ∀ h, SE (v (tO tS)) (run_law_kept [(v tPk) packages_here1, (v tLk) lock2, (v tDep) need3] h) (F_law_kept packages_here1 lock2 need3 h) := by
  intro h
  refine run_se (m := 6) (fb := b_law_kept) rfl ?_ h
  unfold b_law_kept F_law_kept l_law_kept_1
  exact (SJ.for_ (E := (fun (_ : Unit) (ds : DS) => ∃ j4 j5 j6 : Option SV, okJ j4 ∧ okJ j5 ∧ okJ j6 ∧ ds = [(some ((v tPk) packages_here1)), (some ((v tLk) lock2)), (some ((v tDep) need3)), j4, j5, j6])) (PJ.j (e := it tEnt) (PJ.seq (fxU (t := tEnt)) (fun _ => rfl))) ⟨none, none, none, trivial, trivial, trivial, rfl⟩ (fun p13 => (fun _ ds hE => by obtain ⟨j4, j5, j6, hj4, hj5, hj6, rfl⟩ := hE; exact ⟨_, rfl, (SJ.one (SJ.ifM (J.tAndP (PJ.tOf (PJ.bin (PJ.args (PA.cons (fun _ => rfl) (PA.cons (fun _ => rfl) PA.nil)) (fun h15 => rfl)) (fun _ => rfl) (fun h16 => o_eq (t := tDep) (u := tDep) (by decide) (by decide) (p13.1, p13.2.1) need3 h16))) (J.tAnd (J.tTruB (J.args (ec := (v tB)) (AC.p (fun _ => rfl) (AC.p (fun _ => rfl) (AC.nil (call_se rfl rfl (fun _ => rfl) (fun h => ok_F_law_fits p13.2.2 p13.2.1 h))))))) (J.tOf (J.binMP (ea := (v (tO tMan))) (ec := (v tB)) (J.args (ec := (v (tO tMan))) (AC.p (fun _ => rfl) (AC.p (fun _ => rfl) (AC.p (fun _ => rfl) (AC.nil (call_se rfl rfl (fun _ => rfl) (fun h => ok_F_law_find packages_here1 p13.1 p13.2.2 h))))))) (fun _ => rfl) (fun a18 h17 => o_isT (t := (tO tMan)) a18 h17))))) (SJ.retP (fun _ => rfl) rfl (fun _ => ⟨_, rfl, rfl⟩)) (SJ.nil (SJ.end_ (fun _ => ⟨_, ⟨(some ((v tS) p13.1)), (some ((v tS) p13.2.1)), (some ((v tS) p13.2.2)), trivial, trivial, trivial, rfl⟩, Or.inl rfl⟩)))))⟩)) (fun _ ds hE => by obtain ⟨j4, j5, j6, hj4, hj5, hj6, rfl⟩ := hE; exact (SJ.one (SJ.retP (fun _ => rfl) rfl (fun _ => rfl)))))
theorem hi_F_law_kept (a0 : (List (Str × Str × (List (Str × Str)) × (List (Str × Str))))) (a1 : (List (Str × Str × Str))) (a2 : (Str × Str)) : HI (F_law_kept a0 a1 a2) := by
  unfold F_law_kept
  repeat' first | (with_reducible exact HI.pure _) | (with_reducible exact HI.raise _) | (with_reducible exact HI.bad) | (with_reducible exact HI.opt _) | (with_reducible exact HI.ixT _ _) | (with_reducible exact HI.lenT _) | (with_reducible exact HI.slS _ _ _) | (with_reducible exact HI.slD _ _ _) | (with_reducible exact HI.ltT _ _ _ _) | (with_reducible exact HI.leT _ _ _ _) | (with_reducible exact HI.gtT _ _ _ _) | (with_reducible exact HI.geT _ _ _ _) | (with_reducible exact HI.modT _ _) | (with_reducible exact HI.mulT _ _) | (with_reducible exact HI.catT _ _) | (with_reducible exact HI.catS _ _) | (with_reducible exact HI.pushT _ _) | (with_reducible exact HI.intT _) | (with_reducible exact HI.strT _) | (with_reducible exact HI.splitT _ _) | (with_reducible exact HI.joinT _ _) | (with_reducible exact HI.rngT _) | (with_reducible exact HI.rng2T _ _) | (with_reducible exact HI.isET _ _ _) | (with_reducible exact HI.addD _ _) | (with_reducible exact HI.ixD _ _) | (with_reducible exact HI.ixS _ _) | (with_reducible exact HI.lenD _) | (with_reducible exact HI.eqD _ _) | (with_reducible exact HI.neD _ _) | (with_reducible exact HI.inD _ _ _ _) | (with_reducible exact HI.countD _ _ _) | (with_reducible exact HI.sortT _ _) | (with_reducible exact HI.cast _ _) | (with_reducible exact HI.compP _ _ _) | (with_reducible exact HI.compM _ _) | (with_reducible exact hi_F_law_fits _ _) | (with_reducible exact hi_F_law_find _ _ _) | (with_reducible apply HI.bind) | (with_reducible apply HI.ite) | (with_reducible apply HI.onN) | (with_reducible apply HI.go) | (with_reducible apply HI.calm) | (with_reducible apply HI.compT) | (with_reducible apply HI.for0) | (with_reducible apply HI.for_) | (with_reducible apply HI.while0) | (with_reducible apply HI.while_) | (with_reducible apply HI.tryT) | (with_reducible apply HI.hdT) | (with_reducible apply HI.guard) | intro _ | split
def F_spans_of (value1 : D) : T (Option (List ((Int × Int × Int) × (Option (Int × Int × Int))))) := (T.bind (T.bind (T.opt (isiS "str" ((v tD) value1))) fun b => T.pure (!b)) fun b => if b then (T.pure (none : (Option (List ((Int × Int × Int) × (Option (Int × Int × Int))))))) else (T.bind (T.bind (cast tS value1) fun a2 => (splitT a2 z_sbbs)) fun parts3 => (T.bind (compT parts3 (fun part4 => (T.pure true)) (fun part4 => (F_span_of part4))) fun spans5 => (if ((decide ((lnI parts3) > (3 : Int))) || (inX (tO tSpan) tN () spans5)) then (T.pure (none : (Option (List ((Int × Int × Int) × (Option (Int × Int × Int))))))) else (T.bind (cast (tL tSpan) ((tL (tO tSpan)).enc spans5)) fun a9 => T.pure (some a9))))))
theorem ok_F_spans_of (value1 : D) : ∀ h, SE (v (tO (tL tSpan))) (run_spans_of [(v tD) value1] h) (F_spans_of value1 h) := by
  intro h
  refine run_se (m := 4) (fb := b_spans_of) rfl ?_ h
  unfold b_spans_of F_spans_of
  exact (SJ.ifM (J.tNot (J.tTruB (J.isiP (fun _ => rfl)))) (SJ.retP (fun _ => rfl) rfl (fun _ => rfl)) (SJ.nil (SJ.set (J.s1M (J.castP (t := tS) (fun _ => rfl)) (PJ.sc ez_sbbs) (fun _ h => o_split _ _ h)) (fun _ => rfl) (fun parts3 => (SJ.own (u := (tO tSpan)) (J.compI (u := (tO tSpan)) (PJ.seq (fxL (t := tS)) (fun _ => rfl)) (fun part4 => ⟨_, rfl, (PJ.j (e := idB) pj_yes), (J.args (ec := (v (tO tSpan))) (AC.p (fun _ => rfl) (AC.nil (call_se rfl rfl (fun _ => rfl) (fun h => ok_F_span_of part4 h)))))⟩)) (fun spans5 => (SJ.fz rfl (SJ.ifP (PJ.tOr (PJ.tOf (PJ.bin (PJ.args (PA.cons (fun _ => rfl) PA.nil) (fun h6 => o_len (sqL (t := tS)) parts3 h6)) (fun _ => rfl) (fun h7 => o_gti (lnI parts3) (3 : Int) h7))) (PJ.tOf (PJ.bin (fun _ => rfl) (fun _ => rfl) (fun h8 => o_inF (u := tN) (sqL (t := (tO tSpan))) (by decide) (by decide) () spans5 h8)))) (SJ.retP (fun _ => rfl) rfl (fun _ => rfl)) (SJ.nil (SJ.one (SJ.retF (J.map (e := (v (tL tSpan))) (e' := (v (tO (tL tSpan)))) (g := fun a9 => (some a9)) (J.castP (t := (tL tSpan)) (fun _ => rfl)) (fun _ => rfl)) (fun _ => rfl))))))))))))
theorem hi_F_spans_of (a0 : D) : HI (F_spans_of a0) := by
  unfold F_spans_of
  repeat' first | (with_reducible exact HI.pure _) | (with_reducible exact HI.raise _) | (with_reducible exact HI.bad) | (with_reducible exact HI.opt _) | (with_reducible exact HI.ixT _ _) | (with_reducible exact HI.lenT _) | (with_reducible exact HI.slS _ _ _) | (with_reducible exact HI.slD _ _ _) | (with_reducible exact HI.ltT _ _ _ _) | (with_reducible exact HI.leT _ _ _ _) | (with_reducible exact HI.gtT _ _ _ _) | (with_reducible exact HI.geT _ _ _ _) | (with_reducible exact HI.modT _ _) | (with_reducible exact HI.mulT _ _) | (with_reducible exact HI.catT _ _) | (with_reducible exact HI.catS _ _) | (with_reducible exact HI.pushT _ _) | (with_reducible exact HI.intT _) | (with_reducible exact HI.strT _) | (with_reducible exact HI.splitT _ _) | (with_reducible exact HI.joinT _ _) | (with_reducible exact HI.rngT _) | (with_reducible exact HI.rng2T _ _) | (with_reducible exact HI.isET _ _ _) | (with_reducible exact HI.addD _ _) | (with_reducible exact HI.ixD _ _) | (with_reducible exact HI.ixS _ _) | (with_reducible exact HI.lenD _) | (with_reducible exact HI.eqD _ _) | (with_reducible exact HI.neD _ _) | (with_reducible exact HI.inD _ _ _ _) | (with_reducible exact HI.countD _ _ _) | (with_reducible exact HI.sortT _ _) | (with_reducible exact HI.cast _ _) | (with_reducible exact HI.compP _ _ _) | (with_reducible exact HI.compM _ _) | (with_reducible exact hi_F_span_of _) | (with_reducible apply HI.bind) | (with_reducible apply HI.ite) | (with_reducible apply HI.onN) | (with_reducible apply HI.go) | (with_reducible apply HI.calm) | (with_reducible apply HI.compT) | (with_reducible apply HI.for0) | (with_reducible apply HI.for_) | (with_reducible apply HI.while0) | (with_reducible apply HI.while_) | (with_reducible apply HI.tryT) | (with_reducible apply HI.hdT) | (with_reducible apply HI.guard) | intro _ | split
def F_law_needs (stream_here1 : Nat) (names2 : (List Str)) (most3 : Int) : T (List (Str × Str)) := (T.bind (T.pure ([] : List (Str × Str))) fun found4 => (T.bind (newL tS names2) fun left6 => (T.bind (T.bind (F_law_next stream_here1 (most3 + (1 : Int))) rngT) fun l34 => T.bind (forT0 (fun k22 => (fun (found21 : (List (Str × Str))) => (T.bind (truL left6) fun b => if b then (T.bind (T.bind (T.bind (refT left6) fun _ => T.bind (T.bind (lenL left6) fun a24 => (F_law_next stream_here1 a24)) fun a25 => popL tS left6 a25) fun a28 => (T.bind (F_law_range stream_here1) fun a29 => (T.pure (a28, a29)))) fun a31 => T.bind (pushT found21 a31) fun found30 => (T.pure found30)) else (T.pure found21)))) l34 found4) (fun (found32 : (List (Str × Str))) => (T.pure found32)))))
theorem ok_F_law_needs (stream_here1 : Nat) (names2 : (List Str)) (most3 : Int) : ∀ h, SE (v tDeps) (run_law_needs [SV.ref stream_here1, (v (tL tS)) names2, (v tI) most3] h) (F_law_needs stream_here1 names2 most3 h) := by
  intro h
  refine run_se (m := 6) (fb := b_law_needs) rfl ?_ h
  unfold b_law_needs F_law_needs l_law_needs_1
  exact (SJ.own (u := tDep) (J.argsF (ec := it tDep) (AC.nil (fun _ => rfl))) (fun found4 => (SJ.nrm (ds' := [(some (SV.ref stream_here1)), (some ((v (tL tS)) names2)), (some ((v tI) most3)), (some (ow tDep found4)), none, none]) rfl (SJ.set (J.args (ec := SV.ref) (AC.p (fun _ => rfl) (AC.nil (fun h5 => o_newL (sqL (t := tS)) names2 h5)))) (fun _ => rfl) (fun left6 => (SJ.nrm (ds' := [(some (SV.ref stream_here1)), (some ((v (tL tS)) names2)), (some ((v tI) most3)), (some (ow tDep found4)), (some (SV.ref left6)), none]) rfl (SJ.for0 (E := (fun (found9 : (List (Str × Str))) (ds : DS) => ∃ j8 : Option SV, okJ j8 ∧ ds = [(some (SV.ref stream_here1)), (some ((v (tL tS)) names2)), (some ((v tI) most3)), (some (ow tDep found9)), (some (SV.ref left6)), j8])) (J.rngM (J.args (ec := (v tI)) (AC.p (fun _ => rfl) (AC.p (PJ.bin (fun _ => rfl) (fun _ => rfl) (fun h7 => o_add most3 (1 : Int) h7)) (AC.nil (call_dy rfl)))))) ⟨none, trivial, rfl⟩ (fun k22 => (fun found21 ds hE => by obtain ⟨j8, hj8, rfl⟩ := hE; exact ⟨_, rfl, (SJ.one (SJ.ifM (J.truH (fun _ => rfl)) (SJ.app (u := tDep) (l := found21) rfl (J.args (ec := (v tDep)) (AC.m (ea := (v tS)) (J.pop (t := tS) (fun _ => rfl) (J.args (ec := (v tI)) (AC.p (fun _ => rfl) (AC.m (ea := (v tI)) (J.args (ec := (v tI)) (AC.p (fun _ => rfl) (AC.nil (fun h23 => o_lenL left6 h23)))) (fun a24 => (AC.nil (call_dy rfl))))))) (fun a28 => (AC.m (ea := (v tS)) (J.args (ec := (v tS)) (AC.p (fun _ => rfl) (AC.nil (call_se rfl rfl (fun _ => rfl) (fun h => ok_F_law_range stream_here1 h))))) (fun a29 => (AC.nil (fun h27 => rfl))))))) (fun found30 => (SJ.nrm (ds' := [(some (SV.ref stream_here1)), (some ((v (tL tS)) names2)), (some ((v tI) most3)), (some (ow tDep found30)), (some (SV.ref left6)), (some ((v tI) k22))]) rfl (SJ.end_ (fun _ => ⟨_, ⟨(some ((v tI) k22)), trivial, rfl⟩, Or.inl rfl⟩))))) (SJ.nil (SJ.end_ (fun _ => ⟨_, ⟨(some ((v tI) k22)), trivial, rfl⟩, Or.inl rfl⟩)))))⟩)) (fun found32 ds hE => by obtain ⟨j8, hj8, rfl⟩ := hE; exact (SJ.one (SJ.fz rfl (SJ.retP (PJ.args (PA.cons (fun _ => rfl) PA.nil) (fun h33 => o_tuple (sqL (t := tDep)) found32 h33)) rfl (fun _ => rfl))))))))))))
def F_law_resolved (packages_here1 : (List (Str × Str × (List (Str × Str)) × (List (Str × Str))))) (lock2 : (List (Str × Str × Str))) (need3 : (Str × Str)) : T (Option Str) := (T.bind (F_law_kept packages_here1 lock2 need3) fun kept_here4 => (onN kept_here4 (T.bind (T.pure (none : (Option Str))) fun best6 => (T.bind (T.pure packages_here1) fun l40 => T.bind (forT0 (fun manifest25 => (fun (best24 : (Option Str)) => (T.bind (if (decide (manifest25.1 = need3.1)) then (F_law_fits manifest25.2.1 need3.2) else T.pure false) fun b => if b then (T.bind (if (isNE (tO tS) best24) then T.pure true else (T.bind (T.bind (T.opt best24) fun a32 => (F_law_numbers a32)) fun a35 => T.bind (F_law_numbers manifest25.2.1) fun a36 => (ltT (tL tI) (tL tI) a35 a36))) fun b => if b then (T.bind (T.pure (some manifest25.2.1)) fun best38 => (T.pure best38)) else (T.pure best24)) else (T.pure best24)))) l40 best6) (fun (best39 : (Option Str)) => (T.pure best39)))) (fun kept_here41 => (T.pure (some kept_here41)))))
theorem ok_F_law_resolved (packages_here1 : (List (Str × Str × (List (Str × Str)) × (List (Str × Str))))) (lock2 : (List (Str × Str × Str))) (need3 : (Str × Str)) : ∀ h, SE (v (tO tS)) (run_law_resolved [(v tPk) packages_here1, (v tLk) lock2, (v tDep) need3] h) (F_law_resolved packages_here1 lock2 need3 h) := by
  intro h
  refine run_se (m := 6) (fb := b_law_resolved) rfl ?_ h
  unfold b_law_resolved F_law_resolved l_law_resolved_1
  exact (SJ.set (J.args (ec := (v (tO tS))) (AC.p (fun _ => rfl) (AC.p (fun _ => rfl) (AC.p (fun _ => rfl) (AC.nil (call_se rfl rfl (fun _ => rfl) (fun h => ok_F_law_kept packages_here1 lock2 need3 h))))))) (fun _ => rfl) (fun kept_here4 => (SJ.nrm (ds' := [(some ((v tPk) packages_here1)), (some ((v tLk) lock2)), (some ((v tDep) need3)), (some ((v (tO tS)) kept_here4)), none, none]) rfl (SJ.ifS (u := tS) (PJ.tOf (PJ.bin (fun _ => rfl) (fun _ => rfl) (fun h5 => o_isT (t := (tO tS)) kept_here4 h5))) (fun _ => rfl) (fun e => by subst e; exact (SJ.nil (SJ.set (PJ.j (e := (v (tO tS))) (fun _ => rfl)) (fun _ => rfl) (fun best6 => (SJ.nrm (ds' := [(some ((v tPk) packages_here1)), (some ((v tLk) lock2)), (some ((v tDep) need3)), (some ((v (tO tS)) (none : (Option Str)))), (some ((v (tO tS)) best6)), none]) rfl (SJ.for0 (E := (fun (best8 : (Option Str)) (ds : DS) => ∃ j7 : Option SV, okJ j7 ∧ ds = [(some ((v tPk) packages_here1)), (some ((v tLk) lock2)), (some ((v tDep) need3)), (some ((v (tO tS)) (none : (Option Str)))), (some ((v (tO tS)) best8)), j7])) (PJ.j (e := it tMan) (PJ.seq (fxU (t := tMan)) (fun _ => rfl))) ⟨none, trivial, rfl⟩ (fun manifest25 => (fun best24 ds hE => by obtain ⟨j7, hj7, rfl⟩ := hE; exact ⟨_, rfl, (SJ.one (SJ.ifM (J.tAndP (PJ.tOf (PJ.bin (PJ.bin (fun _ => rfl) (fun _ => rfl) (fun h26 => rfl)) (PJ.bin (fun _ => rfl) (fun _ => rfl) (fun h27 => rfl)) (fun h28 => o_eqs manifest25.1 need3.1 h28))) (J.tTruB (J.args (ec := (v tB)) (AC.p (PJ.bin (fun _ => rfl) (fun _ => rfl) (fun h29 => rfl)) (AC.p (PJ.bin (fun _ => rfl) (fun _ => rfl) (fun h30 => rfl)) (AC.nil (call_se rfl rfl (fun _ => rfl) (fun h => ok_F_law_fits manifest25.2.1 need3.2 h)))))))) (SJ.ifM (J.tOrP (PJ.tOf (PJ.bin (fun _ => rfl) (fun _ => rfl) (fun h31 => o_isF (t := (tO tS)) best24 h31))) (J.tOf (J.binMM (ea := (v (tL tI))) (eb := (v (tL tI))) (ec := (v tB)) (J.args (ec := (v (tL tI))) (AC.m (ea := (v tS)) (J.unopt (t := tS) (fun _ => rfl)) (fun a32 => (AC.nil (call_se rfl rfl (fun _ => rfl) (fun h => ok_F_law_numbers a32 h)))))) (J.args (ec := (v (tL tI))) (AC.p (PJ.bin (fun _ => rfl) (fun _ => rfl) (fun h33 => rfl)) (AC.nil (call_se rfl rfl (fun _ => rfl) (fun h => ok_F_law_numbers manifest25.2.1 h))))) (fun a35 a36 h34 => o_lt (t := (tL tI)) (u := (tL tI)) a35 a36 h34)))) (SJ.set (PJ.j (e := (v (tO tS))) (PJ.bin (fun _ => rfl) (fun _ => rfl) (fun h37 => rfl))) (fun _ => rfl) (fun best38 => (SJ.nrm (ds' := [(some ((v tPk) packages_here1)), (some ((v tLk) lock2)), (some ((v tDep) need3)), (some ((v (tO tS)) (none : (Option Str)))), (some ((v (tO tS)) best38)), (some ((v tMan) manifest25))]) rfl (SJ.end_ (fun _ => ⟨_, ⟨(some ((v tMan) manifest25)), trivial, rfl⟩, Or.inl rfl⟩))))) (SJ.nil (SJ.end_ (fun _ => ⟨_, ⟨(some ((v tMan) manifest25)), trivial, rfl⟩, Or.inl rfl⟩)))) (SJ.nil (SJ.end_ (fun _ => ⟨_, ⟨(some ((v tMan) manifest25)), trivial, rfl⟩, Or.inl rfl⟩)))))⟩)) (fun best39 ds hE => by obtain ⟨j7, hj7, rfl⟩ := hE; exact (SJ.one (SJ.retP (fun _ => rfl) rfl (fun _ => rfl)))))))))) (fun kept_here41 e => by subst e; exact (SJ.retP (fun _ => rfl) rfl (fun _ => rfl)))))))
theorem hi_F_law_resolved (a0 : (List (Str × Str × (List (Str × Str)) × (List (Str × Str))))) (a1 : (List (Str × Str × Str))) (a2 : (Str × Str)) : HI (F_law_resolved a0 a1 a2) := by
  unfold F_law_resolved
  repeat' first | (with_reducible exact HI.pure _) | (with_reducible exact HI.raise _) | (with_reducible exact HI.bad) | (with_reducible exact HI.opt _) | (with_reducible exact HI.ixT _ _) | (with_reducible exact HI.lenT _) | (with_reducible exact HI.slS _ _ _) | (with_reducible exact HI.slD _ _ _) | (with_reducible exact HI.ltT _ _ _ _) | (with_reducible exact HI.leT _ _ _ _) | (with_reducible exact HI.gtT _ _ _ _) | (with_reducible exact HI.geT _ _ _ _) | (with_reducible exact HI.modT _ _) | (with_reducible exact HI.mulT _ _) | (with_reducible exact HI.catT _ _) | (with_reducible exact HI.catS _ _) | (with_reducible exact HI.pushT _ _) | (with_reducible exact HI.intT _) | (with_reducible exact HI.strT _) | (with_reducible exact HI.splitT _ _) | (with_reducible exact HI.joinT _ _) | (with_reducible exact HI.rngT _) | (with_reducible exact HI.rng2T _ _) | (with_reducible exact HI.isET _ _ _) | (with_reducible exact HI.addD _ _) | (with_reducible exact HI.ixD _ _) | (with_reducible exact HI.ixS _ _) | (with_reducible exact HI.lenD _) | (with_reducible exact HI.eqD _ _) | (with_reducible exact HI.neD _ _) | (with_reducible exact HI.inD _ _ _ _) | (with_reducible exact HI.countD _ _ _) | (with_reducible exact HI.sortT _ _) | (with_reducible exact HI.cast _ _) | (with_reducible exact HI.compP _ _ _) | (with_reducible exact HI.compM _ _) | (with_reducible exact hi_F_law_kept _ _ _) | (with_reducible exact hi_F_law_fits _ _) | (with_reducible exact hi_F_law_numbers _) | (with_reducible apply HI.bind) | (with_reducible apply HI.ite) | (with_reducible apply HI.onN) | (with_reducible apply HI.go) | (with_reducible apply HI.calm) | (with_reducible apply HI.compT) | (with_reducible apply HI.for0) | (with_reducible apply HI.for_) | (with_reducible apply HI.while0) | (with_reducible apply HI.while_) | (with_reducible apply HI.tryT) | (with_reducible apply HI.hdT) | (with_reducible apply HI.guard) | intro _ | split
def F_is_range (value1 : D) : T Bool := (T.bind (F_spans_of value1) fun a3 => T.pure (!(isNE (tO (tL tSpan)) a3)))
theorem ok_F_is_range (value1 : D) : ∀ h, SE (v tB) (run_is_range [(v tD) value1] h) (F_is_range value1 h) := by
  intro h
  refine run_se (m := 1) (fb := b_is_range) rfl ?_ h
  unfold b_is_range F_is_range
  exact (SJ.one (SJ.retF (J.binMP (ea := (v (tO (tL tSpan)))) (ec := (v tB)) (J.args (ec := (v (tO (tL tSpan)))) (AC.p (fun _ => rfl) (AC.nil (call_se rfl rfl (fun _ => rfl) (fun h => ok_F_spans_of value1 h))))) (fun _ => rfl) (fun a3 h2 => o_isT (t := (tO (tL tSpan))) a3 h2)) (fun _ => rfl)))
theorem hi_F_is_range (a0 : D) : HI (F_is_range a0) := by
  unfold F_is_range
  repeat' first | (with_reducible exact HI.pure _) | (with_reducible exact HI.raise _) | (with_reducible exact HI.bad) | (with_reducible exact HI.opt _) | (with_reducible exact HI.ixT _ _) | (with_reducible exact HI.lenT _) | (with_reducible exact HI.slS _ _ _) | (with_reducible exact HI.slD _ _ _) | (with_reducible exact HI.ltT _ _ _ _) | (with_reducible exact HI.leT _ _ _ _) | (with_reducible exact HI.gtT _ _ _ _) | (with_reducible exact HI.geT _ _ _ _) | (with_reducible exact HI.modT _ _) | (with_reducible exact HI.mulT _ _) | (with_reducible exact HI.catT _ _) | (with_reducible exact HI.catS _ _) | (with_reducible exact HI.pushT _ _) | (with_reducible exact HI.intT _) | (with_reducible exact HI.strT _) | (with_reducible exact HI.splitT _ _) | (with_reducible exact HI.joinT _ _) | (with_reducible exact HI.rngT _) | (with_reducible exact HI.rng2T _ _) | (with_reducible exact HI.isET _ _ _) | (with_reducible exact HI.addD _ _) | (with_reducible exact HI.ixD _ _) | (with_reducible exact HI.ixS _ _) | (with_reducible exact HI.lenD _) | (with_reducible exact HI.eqD _ _) | (with_reducible exact HI.neD _ _) | (with_reducible exact HI.inD _ _ _ _) | (with_reducible exact HI.countD _ _ _) | (with_reducible exact HI.sortT _ _) | (with_reducible exact HI.cast _ _) | (with_reducible exact HI.compP _ _ _) | (with_reducible exact HI.compM _ _) | (with_reducible exact hi_F_spans_of _) | (with_reducible apply HI.bind) | (with_reducible apply HI.ite) | (with_reducible apply HI.onN) | (with_reducible apply HI.go) | (with_reducible apply HI.calm) | (with_reducible apply HI.compT) | (with_reducible apply HI.for0) | (with_reducible apply HI.for_) | (with_reducible apply HI.while0) | (with_reducible apply HI.while_) | (with_reducible apply HI.tryT) | (with_reducible apply HI.hdT) | (with_reducible apply HI.guard) | intro _ | split
def F_law_packages (stream_here1 : Nat) : T (List (Str × Str × (List (Str × Str)) × (List (Str × Str)))) := (T.bind (T.pure ([z_app, z_base, z_core, z_plug, z_view, z_zed] : List Str)) fun names3 => (T.bind (T.pure ([] : List (Str × Str × (List (Str × Str)) × (List (Str × Str))))) fun found4 => (T.bind (rngT (lnI names3)) fun l219 => T.bind (forT0 (fun k117 => (fun (found116 : (List (Str × Str × (List (Str × Str)) × (List (Str × Str))))) => (T.bind (T.pure (slT names3 (some (k117 + (1 : Int))) none)) fun below119 => (T.bind (T.bind (T.bind (F_law_next stream_here1 (6 : Int)) fun a121 => T.pure (decide (a121 = (0 : Int)))) fun b => if b then (T.bind (catT (slT names3 none (some k117)) (slT names3 (some (k117 + (1 : Int))) none)) fun below128 => (T.pure below128)) else (T.pure below119)) (fun (below129 : (List Str)) => (T.bind (T.pure ([] : List Str)) fun versions130 => (T.bind (T.bind (T.bind (F_law_next stream_here1 (2 : Int)) fun a132 => T.pure ((1 : Int) + a132)) rngT) fun l216 => T.bind (forT0 (fun turn179 => (fun (s : (List (Str × Str × (List (Str × Str)) × (List (Str × Str)))) × (List Str)) => match s with | (found177, versions178) => (T.bind (F_law_version stream_here1) fun version_here180 => (if (!inX tS tS version_here180 versions178) then (T.bind (T.pure version_here180) fun a213 => T.bind (pushT versions178 a213) fun versions182 => (T.bind (F_law_needs stream_here1 below129 (2 : Int)) fun needs_here183 => (T.bind (T.bind (T.bind (ixT names3 k117) fun a186 => (T.pure ([a186] : List Str))) fun a190 => T.bind (compM needs_here183 fun need187 => need187.1) fun a191 => (catT a190 a191)) fun taken192 => (T.bind (T.pure ([] : (List (Str × Str)))) fun peers194 => (T.bind (T.bind (T.bind (F_law_next stream_here1 (3 : Int)) fun a196 => T.pure (decide (a196 = (0 : Int)))) fun b => if b then (T.bind (T.bind (compP names3 (fun name202 => (!inX tS tS name202 taken192)) (fun name202 => name202)) fun a204 => (F_law_needs stream_here1 a204 (1 : Int))) fun peers205 => (T.pure peers205)) else (T.pure peers194)) (fun (peers206 : (List (Str × Str))) => (T.bind (T.bind (ixT names3 k117) fun a210 => (T.pure (a210, version_here180, needs_here183, peers206))) fun a212 => T.bind (pushT found177 a212) fun found211 => (T.pure (found211, versions182))))))))) else (T.pure (found177, versions178)))))) l216 (found116, versions130)) (fun (s : (List (Str × Str × (List (Str × Str)) × (List (Str × Str)))) × (List Str)) => match s with | (found214, versions215) => (T.pure found214))))))))) l219 found4) (fun (found217 : (List (Str × Str × (List (Str × Str)) × (List (Str × Str))))) => (T.pure found217)))))
theorem ok_F_law_packages (stream_here1 : Nat) : ∀ h, SE (v tPk) (run_law_packages [SV.ref stream_here1] h) (F_law_packages stream_here1 h) := by
  intro h
  refine run_se (m := 13) (fb := b_law_packages) rfl ?_ h
  unfold b_law_packages F_law_packages l_law_packages_2 l_law_packages_1
  exact (SJ.set (PJ.j (e := (v (tL tS))) (PJ.args (PA.cons (PJ.sc ez_app) (PA.cons (PJ.sc ez_base) (PA.cons (PJ.sc ez_core) (PA.cons (PJ.sc ez_plug) (PA.cons (PJ.sc ez_view) (PA.cons (PJ.sc ez_zed) PA.nil)))))) (fun h2 => rfl))) (fun _ => rfl) (fun names3 => (SJ.nrm (ds' := [(some (SV.ref stream_here1)), (some ((v (tL tS)) names3)), none, none, none, none, none, none, none, none, none, none, none]) rfl (SJ.own (u := tMan) (J.argsF (ec := it tMan) (AC.nil (fun _ => rfl))) (fun found4 => (SJ.nrm (ds' := [(some (SV.ref stream_here1)), (some ((v (tL tS)) names3)), (some (ow tMan found4)), none, none, none, none, none, none, none, none, none, none]) rfl (SJ.for0 (E := (fun (found14 : (List (Str × Str × (List (Str × Str)) × (List (Str × Str))))) (ds : DS) => ∃ j6 j7 j8 j9 j10 j11 j12 j13 : Option SV, okJ j6 ∧ okJ j7 ∧ okJ j8 ∧ okJ j9 ∧ okJ j10 ∧ okJ j11 ∧ okJ j12 ∧ okJ j13 ∧ ds = [(some (SV.ref stream_here1)), (some ((v (tL tS)) names3)), (some (ow tMan found14)), j6, j7, j8, j9, j10, j11, j12, j13, none, none])) (J.rng (PJ.args (PA.cons (fun _ => rfl) PA.nil) (fun h5 => o_len (sqL (t := tS)) names3 h5))) ⟨none, none, none, none, none, none, none, none, trivial, trivial, trivial, trivial, trivial, trivial, trivial, trivial, rfl⟩ (fun k117 => (fun found116 ds hE => by obtain ⟨j6, j7, j8, j9, j10, j11, j12, j13, hj6, hj7, hj8, hj9, hj10, hj11, hj12, hj13, rfl⟩ := hE; exact ⟨_, rfl, (SJ.set (PJ.j (e := (v (tL tS))) (PJ.sl (fun _ => rfl) (po_s (PJ.bin (fun _ => rfl) (fun _ => rfl) (fun h118 => o_add k117 (1 : Int) h118))) po_n (fun h => o_slL (t := tS) _ _ _ h))) (fun _ => rfl) (fun below119 => (SJ.nrm (ds' := [(some (SV.ref stream_here1)), (some ((v (tL tS)) names3)), (some (ow tMan found116)), (some ((v tI) k117)), (some ((v (tL tS)) below119)), j8, j9, j10, j11, j12, j13, none, none]) rfl (SJ.join (E := (fun (below125 : (List Str)) (ds : DS) => ∃ _ : Unit, ds = [(some (SV.ref stream_here1)), (some ((v (tL tS)) names3)), (some (ow tMan found116)), (some ((v tI) k117)), (some ((v (tL tS)) below125)), j8, j9, j10, j11, j12, j13, none, none])) (SJ.one (SJ.ifM (J.tOf (J.binMP (ea := (v tI)) (ec := (v tB)) (J.args (ec := (v tI)) (AC.p (fun _ => rfl) (AC.p (fun _ => rfl) (AC.nil (call_dy rfl))))) (fun _ => rfl) (fun a121 h120 => o_eqi a121 (0 : Int) h120))) (SJ.one1 (SJ.one (SJ.set (J.binPP (ec := (v (tL tS))) (PJ.sl (fun _ => rfl) po_n (po_s (fun _ => rfl)) (fun h => o_slL (t := tS) _ _ _ h)) (PJ.sl (fun _ => rfl) (po_s (PJ.bin (fun _ => rfl) (fun _ => rfl) (fun h126 => o_add k117 (1 : Int) h126))) po_n (fun h => o_slL (t := tS) _ _ _ h)) (fun h127 => o_catL (t := tS) (slT names3 none (some k117)) (slT names3 (some (k117 + (1 : Int))) none) h127)) (fun _ => rfl) (fun below128 => (SJ.nrm (ds' := [(some (SV.ref stream_here1)), (some ((v (tL tS)) names3)), (some (ow tMan found116)), (some ((v tI) k117)), (some ((v (tL tS)) below128)), j8, j9, j10, j11, j12, j13, none, none]) rfl (SJ.end_ (fun _ => ⟨_, ⟨(), rfl⟩, rfl⟩))))))) (SJ.one1 (SJ.end_ (fun _ => ⟨_, ⟨(), rfl⟩, rfl⟩))))) (fun below129 ds hE => by obtain ⟨_, rfl⟩ := hE; exact (SJ.own (u := tS) (J.argsF (ec := it tS) (AC.nil (fun _ => rfl))) (fun versions130 => (SJ.nrm (ds' := [(some (SV.ref stream_here1)), (some ((v (tL tS)) names3)), (some (ow tMan found116)), (some ((v tI) k117)), (some ((v (tL tS)) below129)), (some (ow tS versions130)), j9, j10, j11, j12, j13, none, none]) rfl (SJ.one (SJ.for0 (E := (fun (s : (List (Str × Str × (List (Str × Str)) × (List (Str × Str)))) × (List Str)) (ds : DS) => match s with | (found138, versions139) => ∃ j133 j134 j135 j136 j137 : Option SV, okJ j133 ∧ okJ j134 ∧ okJ j135 ∧ okJ j136 ∧ okJ j137 ∧ ds = [(some (SV.ref stream_here1)), (some ((v (tL tS)) names3)), (some (ow tMan found138)), (some ((v tI) k117)), (some ((v (tL tS)) below129)), (some (ow tS versions139)), j133, j134, j135, j136, j137, none, none])) (J.rngM (J.binPM (eb := (v tI)) (ec := (v tI)) (fun _ => rfl) (J.args (ec := (v tI)) (AC.p (fun _ => rfl) (AC.p (fun _ => rfl) (AC.nil (call_dy rfl))))) (fun a132 h131 => o_add (1 : Int) a132 h131))) ⟨j9, j10, j11, j12, j13, hj9, hj10, hj11, hj12, hj13, rfl⟩ (fun turn179 => (fun ⟨found177, versions178⟩ ds hE => by obtain ⟨j133, j134, j135, j136, j137, hj133, hj134, hj135, hj136, hj137, rfl⟩ := hE; exact ⟨_, rfl, (SJ.set (J.args (ec := (v tS)) (AC.p (fun _ => rfl) (AC.nil (call_se rfl rfl (fun _ => rfl) (fun h => ok_F_law_version stream_here1 h))))) (fun _ => rfl) (fun version_here180 => (SJ.nrm (ds' := [(some (SV.ref stream_here1)), (some ((v (tL tS)) names3)), (some (ow tMan found177)), (some ((v tI) k117)), (some ((v (tL tS)) below129)), (some (ow tS versions178)), (some ((v tI) turn179)), (some ((v tS) version_here180)), j135, j136, j137, none, none]) rfl (SJ.one (SJ.ifP (PJ.tOf (PJ.bin (fun _ => rfl) (fun _ => rfl) (fun h181 => o_inT (u := tS) (sqW (t := tS)) (by decide) (by decide) version_here180 versions178 h181))) (SJ.asc (SJ.app (u := tS) (l := versions178) rfl (PJ.j (e := (v tS)) (fun _ => rfl)) (fun versions182 => (SJ.nrm (ds' := [(some (SV.ref stream_here1)), (some ((v (tL tS)) names3)), (some (ow tMan found177)), (some ((v tI) k117)), (some ((v (tL tS)) below129)), (some (ow tS versions182)), (some ((v tI) turn179)), (some ((v tS) version_here180)), j135, j136, j137, none, none]) rfl (SJ.asc (SJ.set (J.args (ec := (v tDeps)) (AC.p (fun _ => rfl) (AC.p (fun _ => rfl) (AC.p (fun _ => rfl) (AC.nil (call_se rfl rfl (fun _ => rfl) (fun h => ok_F_law_needs stream_here1 below129 (2 : Int) h))))))) (fun _ => rfl) (fun needs_here183 => (SJ.nrm (ds' := [(some (SV.ref stream_here1)), (some ((v (tL tS)) names3)), (some (ow tMan found177)), (some ((v tI) k117)), (some ((v (tL tS)) below129)), (some (ow tS versions182)), (some ((v tI) turn179)), (some ((v tS) version_here180)), (some ((v tDeps) needs_here183)), j136, j137, none, none]) rfl (SJ.asc (SJ.set (J.binMM (ea := (v (tL tS))) (eb := (v (tL tS))) (ec := (v (tL tS))) (J.args (ec := (v (tL tS))) (AC.m (ea := (v tS)) (J.binPP (ec := (v tS)) (fun _ => rfl) (fun _ => rfl) (fun h184 => o_ix (sqL (t := tS)) names3 k117 h184)) (fun a186 => (AC.nil (fun h185 => rfl))))) (J.fz (J.compM (u := tS) (PJ.seq (fxU (t := tDep)) (fun _ => rfl)) (fun need187 => ⟨_, rfl, (PJ.bin (fun _ => rfl) (fun _ => rfl) (fun h188 => rfl))⟩))) (fun a190 a191 h189 => o_catL (t := tS) a190 a191 h189)) (fun _ => rfl) (fun taken192 => (SJ.nrm (ds' := [(some (SV.ref stream_here1)), (some ((v (tL tS)) names3)), (some (ow tMan found177)), (some ((v tI) k117)), (some ((v (tL tS)) below129)), (some (ow tS versions182)), (some ((v tI) turn179)), (some ((v tS) version_here180)), (some ((v tDeps) needs_here183)), (some ((v (tL tS)) taken192)), j137, none, none]) rfl (SJ.asc (SJ.set (PJ.j (e := (v tDeps)) (PJ.args PA.nil (fun h193 => rfl))) (fun _ => rfl) (fun peers194 => (SJ.nrm (ds' := [(some (SV.ref stream_here1)), (some ((v (tL tS)) names3)), (some (ow tMan found177)), (some ((v tI) k117)), (some ((v (tL tS)) below129)), (some (ow tS versions182)), (some ((v tI) turn179)), (some ((v tS) version_here180)), (some ((v tDeps) needs_here183)), (some ((v (tL tS)) taken192)), (some ((v tDeps) peers194)), none, none]) rfl (SJ.asc (SJ.join (E := (fun (peers201 : (List (Str × Str))) (ds : DS) => ∃ _ : Unit, ds = [(some (SV.ref stream_here1)), (some ((v (tL tS)) names3)), (some (ow tMan found177)), (some ((v tI) k117)), (some ((v (tL tS)) below129)), (some (ow tS versions182)), (some ((v tI) turn179)), (some ((v tS) version_here180)), (some ((v tDeps) needs_here183)), (some ((v (tL tS)) taken192)), (some ((v tDeps) peers201)), none, none])) (SJ.one (SJ.ifM (J.tOf (J.binMP (ea := (v tI)) (ec := (v tB)) (J.args (ec := (v tI)) (AC.p (fun _ => rfl) (AC.p (fun _ => rfl) (AC.nil (call_dy rfl))))) (fun _ => rfl) (fun a196 h195 => o_eqi a196 (0 : Int) h195))) (SJ.one1 (SJ.one (SJ.set (J.args (ec := (v tDeps)) (AC.p (fun _ => rfl) (AC.m (ea := (v (tL tS))) (J.fz (J.compP (u := tS) (PJ.seq (fxL (t := tS)) (fun _ => rfl)) (fun name202 => ⟨_, rfl, (PJ.tOf (PJ.bin (fun _ => rfl) (fun _ => rfl) (fun h203 => o_inT (u := tS) (sqL (t := tS)) (by decide) (by decide) name202 taken192 h203))), (fun _ => rfl)⟩))) (fun a204 => (AC.p (fun _ => rfl) (AC.nil (call_se rfl rfl (fun _ => rfl) (fun h => ok_F_law_needs stream_here1 a204 (1 : Int) h)))))))) (fun _ => rfl) (fun peers205 => (SJ.nrm (ds' := [(some (SV.ref stream_here1)), (some ((v (tL tS)) names3)), (some (ow tMan found177)), (some ((v tI) k117)), (some ((v (tL tS)) below129)), (some (ow tS versions182)), (some ((v tI) turn179)), (some ((v tS) version_here180)), (some ((v tDeps) needs_here183)), (some ((v (tL tS)) taken192)), (some ((v tDeps) peers205)), none, none]) rfl (SJ.end_ (fun _ => ⟨_, ⟨(), rfl⟩, rfl⟩))))))) (SJ.one1 (SJ.end_ (fun _ => ⟨_, ⟨(), rfl⟩, rfl⟩))))) (fun peers206 ds hE => by obtain ⟨_, rfl⟩ := hE; exact (SJ.app (u := tMan) (l := found177) rfl (J.args (ec := (v tMan)) (AC.m (ea := (v tS)) (J.binPP (ec := (v tS)) (fun _ => rfl) (fun _ => rfl) (fun h207 => o_ix (sqL (t := tS)) names3 k117 h207)) (fun a210 => (AC.p (fun _ => rfl) (AC.p (fun _ => rfl) (AC.p (fun _ => rfl) (AC.nil (fun h209 => rfl)))))))) (fun found211 => (SJ.nrm (ds' := [(some (SV.ref stream_here1)), (some ((v (tL tS)) names3)), (some (ow tMan found211)), (some ((v tI) k117)), (some ((v (tL tS)) below129)), (some (ow tS versions182)), (some ((v tI) turn179)), (some ((v tS) version_here180)), (some ((v tDeps) needs_here183)), (some ((v (tL tS)) taken192)), (some ((v tDeps) peers206)), none, none]) rfl (SJ.end_ (fun _ => ⟨_, ⟨(some ((v tI) turn179)), (some ((v tS) version_here180)), (some ((v tDeps) needs_here183)), (some ((v (tL tS)) taken192)), (some ((v tDeps) peers206)), trivial, trivial, trivial, trivial, trivial, rfl⟩, Or.inl rfl⟩)))))))))))))))))))))))) (SJ.nil (SJ.end_ (fun _ => ⟨_, ⟨(some ((v tI) turn179)), (some ((v tS) version_here180)), j135, j136, j137, trivial, trivial, hj135, hj136, hj137, rfl⟩, Or.inl rfl⟩))))))))⟩)) (fun ⟨found214, versions215⟩ ds hE => by obtain ⟨j133, j134, j135, j136, j137, hj133, hj134, hj135, hj136, hj137, rfl⟩ := hE; exact (SJ.end_ (fun _ => ⟨_, ⟨(some ((v tI) k117)), (some ((v (tL tS)) below129)), (some (ow tS versions215)), j133, j134, j135, j136, j137, trivial, trivial, trivial, hj133, hj134, hj135, hj136, hj137, rfl⟩, Or.inl rfl⟩)))))))))))))⟩)) (fun found217 ds hE => by obtain ⟨j6, j7, j8, j9, j10, j11, j12, j13, hj6, hj7, hj8, hj9, hj10, hj11, hj12, hj13, rfl⟩ := hE; exact (SJ.one (SJ.fz rfl (SJ.retP (PJ.args (PA.cons (fun _ => rfl) PA.nil) (fun h218 => o_tuple (sqL (t := tMan)) found217 h218)) rfl (fun _ => rfl))))))))))))
def F_law_project (stream_here1 : Nat) : T (List (Str × Str)) := (F_law_needs stream_here1 ([z_app, z_base, z_core, z_plug, z_view, z_zed] : (List Str)) (3 : Int))
theorem ok_F_law_project (stream_here1 : Nat) : ∀ h, SE (v tDeps) (run_law_project [SV.ref stream_here1] h) (F_law_project stream_here1 h) := by
  intro h
  refine run_se (m := 1) (fb := b_law_project) rfl ?_ h
  unfold b_law_project F_law_project
  exact (SJ.one (SJ.retF (J.args (ec := (v tDeps)) (AC.p (fun _ => rfl) (AC.p (PJ.args (PA.cons (PJ.sc ez_app) (PA.cons (PJ.sc ez_base) (PA.cons (PJ.sc ez_core) (PA.cons (PJ.sc ez_plug) (PA.cons (PJ.sc ez_view) (PA.cons (PJ.sc ez_zed) PA.nil)))))) (fun h2 => rfl)) (AC.p (fun _ => rfl) (AC.nil (call_se rfl rfl (fun _ => rfl) (fun h => ok_F_law_needs stream_here1 ([z_app, z_base, z_core, z_plug, z_view, z_zed] : (List Str)) (3 : Int) h))))))) (fun _ => rfl)))
def F_law_resolve (packages_here1 : (List (Str × Str × (List (Str × Str)) × (List (Str × Str))))) (project_here2 : (List (Str × Str))) (lock3 : (List (Str × Str × Str))) : T D := (T.bind (sortT tDep project_here2) fun waiting5 => (T.bind (T.pure ([] : List (Str × Str × Str))) fun found6 => (T.bind (rngT (400 : Int)) fun l67 => T.bind (forT (fun turn40 => (fun (s : (List (Str × Str)) × (List (Str × Str × Str))) => match s with | (waiting38, found39) => (if (decide (turn40 < (lnI waiting38))) then (T.bind (ixT waiting38 turn40) fun need44 => (T.bind (T.bind (compM found39 fun entry45 => (entry45.1, entry45.2.1)) fun a47 => T.pure (!inX tDep tDep need44 a47)) fun b => if b then (T.bind (F_law_resolved packages_here1 lock3 need44) fun version_here48 => (onN version_here48 (T.pure (Lp.out (tDep.enc need44))) (fun version_here50 => (T.bind (T.pure (need44.1, need44.2, version_here50)) fun a63 => T.bind (pushT found39 a63) fun found54 => (T.bind (T.bind (T.bind (T.bind (T.bind (T.bind (F_law_find packages_here1 need44.1 version_here50) T.opt) fun a57 => T.pure (a57.2.2.1)) fun a59 => (T.pure a59)) (sortT tDep)) fun a61 => (catT waiting38 a61)) fun waiting62 => (T.pure (Lp.nx (waiting62, found54)))))))) else (T.pure (Lp.nx (waiting38, found39))))) else (T.pure (Lp.nx (waiting38, found39)))))) l67 (waiting5, found6)) (Jn.go (fun (s : (List (Str × Str)) × (List (Str × Str × Str))) => match s with | (waiting64, found65) => (T.bind (sortT tEnt found65) fun a66 => T.pure ((tL tEnt).enc a66)))))))
theorem ok_F_law_resolve (packages_here1 : (List (Str × Str × (List (Str × Str)) × (List (Str × Str))))) (project_here2 : (List (Str × Str))) (lock3 : (List (Str × Str × Str))) : ∀ h, SE (v tD) (run_law_resolve [(v tPk) packages_here1, (v tDeps) project_here2, (v tLk) lock3] h) (F_law_resolve packages_here1 project_here2 lock3 h) := by
  intro h
  refine run_se (m := 9) (fb := b_law_resolve) rfl ?_ h
  unfold b_law_resolve F_law_resolve l_law_resolve_1
  exact (SJ.set (J.fz (J.sort (sqL (t := tDep)) (PJ.args (PA.cons (fun _ => rfl) PA.nil) (fun h4 => o_list (sqU (t := tDep)) project_here2 h4)))) (fun _ => rfl) (fun waiting5 => (SJ.nrm (ds' := [(some ((v tPk) packages_here1)), (some ((v tDeps) project_here2)), (some ((v tLk) lock3)), (some ((v (tL tDep)) waiting5)), none, none, none, none, none]) rfl (SJ.own (u := tEnt) (J.argsF (ec := it tEnt) (AC.nil (fun _ => rfl))) (fun found6 => (SJ.nrm (ds' := [(some ((v tPk) packages_here1)), (some ((v tDeps) project_here2)), (some ((v tLk) lock3)), (some ((v (tL tDep)) waiting5)), (some (ow tEnt found6)), none, none, none, none]) rfl (SJ.for_ (E := (fun (s : (List (Str × Str)) × (List (Str × Str × Str))) (ds : DS) => match s with | (waiting10, found11) => ∃ j7 j8 j9 : Option SV, okJ j7 ∧ okJ j8 ∧ okJ j9 ∧ ds = [(some ((v tPk) packages_here1)), (some ((v tDeps) project_here2)), (some ((v tLk) lock3)), (some ((v (tL tDep)) waiting10)), (some (ow tEnt found11)), j7, j8, j9, none])) (J.rng (fun _ => rfl)) ⟨none, none, none, trivial, trivial, trivial, rfl⟩ (fun turn40 => (fun ⟨waiting38, found39⟩ ds hE => by obtain ⟨j7, j8, j9, hj7, hj8, hj9, rfl⟩ := hE; exact ⟨_, rfl, (SJ.one (SJ.ifP (PJ.tOf (PJ.bin (fun _ => rfl) (PJ.args (PA.cons (fun _ => rfl) PA.nil) (fun h41 => o_len (sqL (t := tDep)) waiting38 h41)) (fun h42 => o_lti turn40 (lnI waiting38) h42))) (SJ.asc (SJ.set (J.binPP (ec := (v tDep)) (fun _ => rfl) (fun _ => rfl) (fun h43 => o_ix (sqL (t := tDep)) waiting38 turn40 h43)) (fun _ => rfl) (fun need44 => (SJ.nrm (ds' := [(some ((v tPk) packages_here1)), (some ((v tDeps) project_here2)), (some ((v tLk) lock3)), (some ((v (tL tDep)) waiting38)), (some (ow tEnt found39)), (some ((v tI) turn40)), (some ((v tDep) need44)), j9, none]) rfl (SJ.ifM (J.tOf (J.binPM (eb := (v (tL tDep))) (ec := (v tB)) (fun _ => rfl) (J.fz (J.compM (u := tDep) (PJ.ownI (fun _ => rfl)) (fun entry45 => ⟨_, rfl, (PJ.sl (fun _ => rfl) po_n (po_s (fun _ => rfl)) (fun _ => rfl))⟩))) (fun a47 h46 => o_inT (u := tDep) (sqL (t := tDep)) (by decide) (by decide) need44 a47 h46))) (SJ.asc (SJ.set (J.args (ec := (v (tO tS))) (AC.p (fun _ => rfl) (AC.p (fun _ => rfl) (AC.p (fun _ => rfl) (AC.nil (call_se rfl rfl (fun _ => rfl) (fun h => ok_F_law_resolved packages_here1 lock3 need44 h))))))) (fun _ => rfl) (fun version_here48 => (SJ.nrm (ds' := [(some ((v tPk) packages_here1)), (some ((v tDeps) project_here2)), (some ((v tLk) lock3)), (some ((v (tL tDep)) waiting38)), (some (ow tEnt found39)), (some ((v tI) turn40)), (some ((v tDep) need44)), (some ((v (tO tS)) version_here48)), none]) rfl (SJ.asc (SJ.ifN (u := tS) (PJ.tOf (PJ.bin (fun _ => rfl) (fun _ => rfl) (fun h49 => o_isF (t := (tO tS)) version_here48 h49))) (fun _ => rfl) (fun e => by subst e; exact (SJ.retP (fun _ => rfl) rfl (fun _ => ⟨_, rfl, rfl⟩))) (fun version_here50 e => by subst e; exact (SJ.nil (SJ.asc (SJ.app (u := tEnt) (l := found39) rfl (PJ.j (e := (v tEnt)) (PJ.bin (fun _ => rfl) (PJ.args (PA.cons (fun _ => rfl) PA.nil) (fun h52 => rfl)) (fun h53 => rfl))) (fun found54 => (SJ.nrm (ds' := [(some ((v tPk) packages_here1)), (some ((v tDeps) project_here2)), (some ((v tLk) lock3)), (some ((v (tL tDep)) waiting38)), (some (ow tEnt found54)), (some ((v tI) turn40)), (some ((v tDep) need44)), (some ((v tS) version_here50)), none]) rfl (SJ.set (J.binPM (eb := (v (tL tDep))) (ec := (v (tL tDep))) (fun _ => rfl) (J.fz (J.sortM (sqL (t := tDep)) (J.args (ec := (v (tL tDep))) (AC.m (ea := (v tDeps)) (J.binMP (ea := (v tMan)) (ec := (v tDeps)) (J.unoptM (t := tMan) (J.args (ec := (v (tO tMan))) (AC.p (fun _ => rfl) (AC.p (PJ.bin (fun _ => rfl) (fun _ => rfl) (fun h55 => rfl)) (AC.p (fun _ => rfl) (AC.nil (call_se rfl rfl (fun _ => rfl) (fun h => ok_F_law_find packages_here1 need44.1 version_here50 h)))))))) (fun _ => rfl) (fun a57 h56 => rfl)) (fun a59 => (AC.nil (fun h58 => o_list (sqU (t := tDep)) a59 h58))))))) (fun a61 h60 => o_catL (t := tDep) waiting38 a61 h60)) (fun _ => rfl) (fun waiting62 => (SJ.nrm (ds' := [(some ((v tPk) packages_here1)), (some ((v tDeps) project_here2)), (some ((v tLk) lock3)), (some ((v (tL tDep)) waiting62)), (some (ow tEnt found54)), (some ((v tI) turn40)), (some ((v tDep) need44)), (some ((v tS) version_here50)), none]) rfl (SJ.end_ (fun _ => ⟨_, ⟨(some ((v tI) turn40)), (some ((v tDep) need44)), (some ((v tS) version_here50)), trivial, trivial, trivial, rfl⟩, Or.inl rfl⟩))))))))))))))))) (SJ.nil (SJ.end_ (fun _ => ⟨_, ⟨(some ((v tI) turn40)), (some ((v tDep) need44)), j9, trivial, trivial, hj9, rfl⟩, Or.inl rfl⟩)))))))) (SJ.nil (SJ.end_ (fun _ => ⟨_, ⟨(some ((v tI) turn40)), j8, j9, trivial, hj8, hj9, rfl⟩, Or.inl rfl⟩)))))⟩)) (fun ⟨waiting64, found65⟩ ds hE => by obtain ⟨j7, j8, j9, hj7, hj8, hj9, rfl⟩ := hE; exact (SJ.one (SJ.fz rfl (SJ.retF (J.map (e := (v (tL tEnt))) (e' := (v tD)) (g := fun a66 => ((tL tEnt).enc a66)) (J.fz (J.sort (sqL (t := tEnt)) (fun _ => rfl))) (fun _ => rfl)) (fun _ => rfl))))))))))))
theorem hi_F_law_resolve (a0 : (List (Str × Str × (List (Str × Str)) × (List (Str × Str))))) (a1 : (List (Str × Str))) (a2 : (List (Str × Str × Str))) : HI (F_law_resolve a0 a1 a2) := by
  unfold F_law_resolve
  repeat' first | (with_reducible exact HI.pure _) | (with_reducible exact HI.raise _) | (with_reducible exact HI.bad) | (with_reducible exact HI.opt _) | (with_reducible exact HI.ixT _ _) | (with_reducible exact HI.lenT _) | (with_reducible exact HI.slS _ _ _) | (with_reducible exact HI.slD _ _ _) | (with_reducible exact HI.ltT _ _ _ _) | (with_reducible exact HI.leT _ _ _ _) | (with_reducible exact HI.gtT _ _ _ _) | (with_reducible exact HI.geT _ _ _ _) | (with_reducible exact HI.modT _ _) | (with_reducible exact HI.mulT _ _) | (with_reducible exact HI.catT _ _) | (with_reducible exact HI.catS _ _) | (with_reducible exact HI.pushT _ _) | (with_reducible exact HI.intT _) | (with_reducible exact HI.strT _) | (with_reducible exact HI.splitT _ _) | (with_reducible exact HI.joinT _ _) | (with_reducible exact HI.rngT _) | (with_reducible exact HI.rng2T _ _) | (with_reducible exact HI.isET _ _ _) | (with_reducible exact HI.addD _ _) | (with_reducible exact HI.ixD _ _) | (with_reducible exact HI.ixS _ _) | (with_reducible exact HI.lenD _) | (with_reducible exact HI.eqD _ _) | (with_reducible exact HI.neD _ _) | (with_reducible exact HI.inD _ _ _ _) | (with_reducible exact HI.countD _ _ _) | (with_reducible exact HI.sortT _ _) | (with_reducible exact HI.cast _ _) | (with_reducible exact HI.compP _ _ _) | (with_reducible exact HI.compM _ _) | (with_reducible exact hi_F_law_resolved _ _ _) | (with_reducible exact hi_F_law_find _ _ _) | (with_reducible apply HI.bind) | (with_reducible apply HI.ite) | (with_reducible apply HI.onN) | (with_reducible apply HI.go) | (with_reducible apply HI.calm) | (with_reducible apply HI.compT) | (with_reducible apply HI.for0) | (with_reducible apply HI.for_) | (with_reducible apply HI.while0) | (with_reducible apply HI.while_) | (with_reducible apply HI.tryT) | (with_reducible apply HI.hdT) | (with_reducible apply HI.guard) | intro _ | split
def F_is_dependency (value1 : D) : T Bool := (T.bind (T.opt (isiS "tuple" ((v tD) value1))) fun b => if b then (T.bind (T.bind (lenD value1) fun a4 => T.pure (decide (a4 = (2 : Int)))) fun b => if b then (T.bind (T.bind (ixD value1 (0 : Int)) fun a6 => (F_is_name a6)) fun b => if b then (T.bind (ixD value1 (1 : Int)) fun a8 => (F_is_range a8)) else T.pure false) else T.pure false) else T.pure false)
theorem ok_F_is_dependency (value1 : D) : ∀ h, SE (v tB) (run_is_dependency [(v tD) value1] h) (F_is_dependency value1 h) := by
  intro h
  refine run_se (m := 1) (fb := b_is_dependency) rfl ?_ h
  unfold b_is_dependency F_is_dependency
  exact (SJ.one (SJ.retF (J.andV (J.isiP (fun _ => rfl)) (J.andV (J.binMP (ea := (v tI)) (ec := (v tB)) (J.args (ec := (v tI)) (AC.p (fun _ => rfl) (AC.nil (fun h2 => dy_se tI _)))) (fun _ => rfl) (fun a4 h3 => o_eqi a4 (2 : Int) h3)) (J.andV (J.args (ec := (v tB)) (AC.m (ea := (v tD)) (J.binPP (ec := (v tD)) (fun _ => rfl) (fun _ => rfl) (fun h5 => o_ixD value1 (0 : Int) h5)) (fun a6 => (AC.nil (call_se rfl rfl (fun _ => rfl) (fun h => ok_F_is_name a6 h)))))) (J.args (ec := (v tB)) (AC.m (ea := (v tD)) (J.binPP (ec := (v tD)) (fun _ => rfl) (fun _ => rfl) (fun h7 => o_ixD value1 (1 : Int) h7)) (fun a8 => (AC.nil (call_se rfl rfl (fun _ => rfl) (fun h => ok_F_is_range a8 h))))))))) (fun _ => rfl)))
theorem hi_F_is_dependency (a0 : D) : HI (F_is_dependency a0) := by
  unfold F_is_dependency
  repeat' first | (with_reducible exact HI.pure _) | (with_reducible exact HI.raise _) | (with_reducible exact HI.bad) | (with_reducible exact HI.opt _) | (with_reducible exact HI.ixT _ _) | (with_reducible exact HI.lenT _) | (with_reducible exact HI.slS _ _ _) | (with_reducible exact HI.slD _ _ _) | (with_reducible exact HI.ltT _ _ _ _) | (with_reducible exact HI.leT _ _ _ _) | (with_reducible exact HI.gtT _ _ _ _) | (with_reducible exact HI.geT _ _ _ _) | (with_reducible exact HI.modT _ _) | (with_reducible exact HI.mulT _ _) | (with_reducible exact HI.catT _ _) | (with_reducible exact HI.catS _ _) | (with_reducible exact HI.pushT _ _) | (with_reducible exact HI.intT _) | (with_reducible exact HI.strT _) | (with_reducible exact HI.splitT _ _) | (with_reducible exact HI.joinT _ _) | (with_reducible exact HI.rngT _) | (with_reducible exact HI.rng2T _ _) | (with_reducible exact HI.isET _ _ _) | (with_reducible exact HI.addD _ _) | (with_reducible exact HI.ixD _ _) | (with_reducible exact HI.ixS _ _) | (with_reducible exact HI.lenD _) | (with_reducible exact HI.eqD _ _) | (with_reducible exact HI.neD _ _) | (with_reducible exact HI.inD _ _ _ _) | (with_reducible exact HI.countD _ _ _) | (with_reducible exact HI.sortT _ _) | (with_reducible exact HI.cast _ _) | (with_reducible exact HI.compP _ _ _) | (with_reducible exact HI.compM _ _) | (with_reducible exact hi_F_is_name _) | (with_reducible exact hi_F_is_range _) | (with_reducible apply HI.bind) | (with_reducible apply HI.ite) | (with_reducible apply HI.onN) | (with_reducible apply HI.go) | (with_reducible apply HI.calm) | (with_reducible apply HI.compT) | (with_reducible apply HI.for0) | (with_reducible apply HI.for_) | (with_reducible apply HI.while0) | (with_reducible apply HI.while_) | (with_reducible apply HI.tryT) | (with_reducible apply HI.hdT) | (with_reducible apply HI.guard) | intro _ | split
def F_law_some_lock (stream_here1 : Nat) (packages_here2 : (List (Str × Str × (List (Str × Str)) × (List (Str × Str))))) (project_here3 : (List (Str × Str))) : T (List (Str × Str × Str)) := (T.bind (F_law_resolve packages_here2 project_here3 ([] : (List (Str × Str × Str)))) fun found5 => (T.bind (T.opt (isiS "tuple" ((v tD) found5))) fun b => if b then (T.pure ([] : (List (Str × Str × Str)))) else (T.bind (T.pure ([] : List (Str × Str × Str))) fun lock7 => (T.bind (cast (tL tEnt) found5) fun l65 => T.bind (forT0 (fun p32 => (fun (lock31 : (List (Str × Str × Str))) => (T.bind (T.bind (F_law_next stream_here1 (30 : Int)) fun a34 => T.pure (decide (a34 > (0 : Int)))) fun b => if b then (T.bind (compT packages_here2 (fun manifest35 => (if (decide (manifest35.1 = p32.1)) then (F_law_fits manifest35.2.1 p32.2.1) else T.pure false)) (fun manifest35 => (T.pure manifest35.2.1))) fun others40 => (T.bind (T.bind (T.bind (F_law_next stream_here1 (lnI others40)) fun a43 => (ixT others40 a43)) fun a46 => (T.pure (p32.1, p32.2.1, a46))) fun a48 => T.bind (pushT lock31 a48) fun lock47 => (T.pure lock47))) else (T.pure lock31)))) l65 lock7) (fun (lock49 : (List (Str × Str × Str))) => (T.bind (T.bind (T.bind (F_law_next stream_here1 (8 : Int)) fun a51 => T.pure (decide (a51 = (0 : Int)))) fun b => if b then (T.bind (catT lock49 ([(z_app, z_u9_9_9, z_9_9_9)] : (List (Str × Str × Str)))) fun lock62 => (T.pure lock62)) else (T.pure lock49)) (fun (lock63 : (List (Str × Str × Str))) => (T.pure lock63))))))))
theorem ok_F_law_some_lock (stream_here1 : Nat) (packages_here2 : (List (Str × Str × (List (Str × Str)) × (List (Str × Str))))) (project_here3 : (List (Str × Str))) : ∀ h, SE (v tLk) (run_law_some_lock [SV.ref stream_here1, (v tPk) packages_here2, (v tDeps) project_here3] h) (F_law_some_lock stream_here1 packages_here2 project_here3 h) := by
  intro h
  refine run_se (m := 10) (fb := b_law_some_lock) rfl ?_ h
  unfold b_law_some_lock F_law_some_lock l_law_some_lock_1
  exact (SJ.set (J.args (ec := (v tD)) (AC.p (fun _ => rfl) (AC.p (fun _ => rfl) (AC.p (PJ.args PA.nil (fun h4 => rfl)) (AC.nil (call_se rfl rfl (fun _ => rfl) (fun h => ok_F_law_resolve packages_here2 project_here3 ([] : (List (Str × Str × Str))) h))))))) (fun _ => rfl) (fun found5 => (SJ.nrm (ds' := [(some (SV.ref stream_here1)), (some ((v tPk) packages_here2)), (some ((v tDeps) project_here3)), (some ((v tD) found5)), none, none, none, none, none, none]) rfl (SJ.ifM (J.tTruB (J.isiP (fun _ => rfl))) (SJ.retP (PJ.args PA.nil (fun h6 => rfl)) rfl (fun _ => rfl)) (SJ.nil (SJ.own (u := tEnt) (J.argsF (ec := it tEnt) (AC.nil (fun _ => rfl))) (fun lock7 => (SJ.nrm (ds' := [(some (SV.ref stream_here1)), (some ((v tPk) packages_here2)), (some ((v tDeps) project_here3)), (some ((v tD) found5)), (some (ow tEnt lock7)), none, none, none, none, none]) rfl (SJ.for0 (E := (fun (lock12 : (List (Str × Str × Str))) (ds : DS) => ∃ j8 j9 j10 j11 : Option SV, okJ j8 ∧ okJ j9 ∧ okJ j10 ∧ okJ j11 ∧ ds = [(some (SV.ref stream_here1)), (some ((v tPk) packages_here2)), (some ((v tDeps) project_here3)), (some ((v tD) found5)), (some (ow tEnt lock12)), j8, j9, j10, j11, none])) (J.seq (fxL (t := tEnt)) (J.castP (t := (tL tEnt)) (fun _ => rfl))) ⟨none, none, none, none, trivial, trivial, trivial, trivial, rfl⟩ (fun p32 => (fun lock31 ds hE => by obtain ⟨j8, j9, j10, j11, hj8, hj9, hj10, hj11, rfl⟩ := hE; exact ⟨_, rfl, (SJ.one (SJ.ifM (J.tOf (J.binMP (ea := (v tI)) (ec := (v tB)) (J.args (ec := (v tI)) (AC.p (fun _ => rfl) (AC.p (fun _ => rfl) (AC.nil (call_dy rfl))))) (fun _ => rfl) (fun a34 h33 => o_gti a34 (0 : Int) h33))) (SJ.asc (SJ.own (u := tS) (J.compI (u := tS) (PJ.seq (fxU (t := tMan)) (fun _ => rfl)) (fun manifest35 => ⟨_, rfl, (J.tAndP (PJ.tOf (PJ.bin (PJ.bin (fun _ => rfl) (fun _ => rfl) (fun h36 => rfl)) (fun _ => rfl) (fun h37 => o_eqs manifest35.1 p32.1 h37))) (J.tTruB (J.args (ec := (v tB)) (AC.p (PJ.bin (fun _ => rfl) (fun _ => rfl) (fun h38 => rfl)) (AC.p (fun _ => rfl) (AC.nil (call_se rfl rfl (fun _ => rfl) (fun h => ok_F_law_fits manifest35.2.1 p32.2.1 h)))))))), (PJ.j (e := (v tS)) (PJ.bin (fun _ => rfl) (fun _ => rfl) (fun h39 => rfl)))⟩)) (fun others40 => (SJ.nrm (ds' := [(some (SV.ref stream_here1)), (some ((v tPk) packages_here2)), (some ((v tDeps) project_here3)), (some ((v tD) found5)), (some (ow tEnt lock31)), (some ((v tS) p32.1)), (some ((v tS) p32.2.1)), (some ((v tS) p32.2.2)), (some (ow tS others40)), none]) rfl (SJ.fz rfl (SJ.app (u := tEnt) (l := lock31) rfl (J.args (ec := (v tEnt)) (AC.p (fun _ => rfl) (AC.p (fun _ => rfl) (AC.m (ea := (v tS)) (J.binPM (eb := (v tI)) (ec := (v tS)) (fun _ => rfl) (J.args (ec := (v tI)) (AC.p (fun _ => rfl) (AC.p (PJ.args (PA.cons (fun _ => rfl) PA.nil) (fun h41 => o_len (sqL (t := tS)) others40 h41)) (AC.nil (call_dy rfl))))) (fun a43 h42 => o_ix (sqL (t := tS)) others40 a43 h42)) (fun a46 => (AC.nil (fun h45 => rfl))))))) (fun lock47 => (SJ.nrm (ds' := [(some (SV.ref stream_here1)), (some ((v tPk) packages_here2)), (some ((v tDeps) project_here3)), (some ((v tD) found5)), (some (ow tEnt lock47)), (some ((v tS) p32.1)), (some ((v tS) p32.2.1)), (some ((v tS) p32.2.2)), (some ((v (tL tS)) others40)), none]) rfl (SJ.end_ (fun _ => ⟨_, ⟨(some ((v tS) p32.1)), (some ((v tS) p32.2.1)), (some ((v tS) p32.2.2)), (some ((v (tL tS)) others40)), trivial, trivial, trivial, trivial, rfl⟩, Or.inl rfl⟩)))))))))) (SJ.nil (SJ.end_ (fun _ => ⟨_, ⟨(some ((v tS) p32.1)), (some ((v tS) p32.2.1)), (some ((v tS) p32.2.2)), j11, trivial, trivial, trivial, hj11, rfl⟩, Or.inl rfl⟩)))))⟩)) (fun lock49 ds hE => by obtain ⟨j8, j9, j10, j11, hj8, hj9, hj10, hj11, rfl⟩ := hE; exact (SJ.fz rfl (SJ.join (E := (fun (lock57 : (List (Str × Str × Str))) (ds : DS) => ∃ _ : Unit, ds = [(some (SV.ref stream_here1)), (some ((v tPk) packages_here2)), (some ((v tDeps) project_here3)), (some ((v tD) found5)), (some ((v (tL tEnt)) lock57)), j8, j9, j10, j11, none])) (SJ.one (SJ.ifM (J.tOf (J.binMP (ea := (v tI)) (ec := (v tB)) (J.args (ec := (v tI)) (AC.p (fun _ => rfl) (AC.p (fun _ => rfl) (AC.nil (call_dy rfl))))) (fun _ => rfl) (fun a51 h50 => o_eqi a51 (0 : Int) h50))) (SJ.one1 (SJ.one (SJ.set (J.binPP (ec := (v (tL tEnt))) (fun _ => rfl) (PJ.args (PA.cons (PJ.args (PA.cons (PJ.sc ez_app) (PA.cons (PJ.sc ez_u9_9_9) (PA.cons (PJ.sc ez_9_9_9) PA.nil))) (fun h59 => rfl)) PA.nil) (fun h60 => rfl)) (fun h61 => o_catL (t := tEnt) lock49 ([(z_app, z_u9_9_9, z_9_9_9)] : (List (Str × Str × Str))) h61)) (fun _ => rfl) (fun lock62 => (SJ.nrm (ds' := [(some (SV.ref stream_here1)), (some ((v tPk) packages_here2)), (some ((v tDeps) project_here3)), (some ((v tD) found5)), (some ((v (tL tEnt)) lock62)), j8, j9, j10, j11, none]) rfl (SJ.end_ (fun _ => ⟨_, ⟨(), rfl⟩, rfl⟩))))))) (SJ.one1 (SJ.end_ (fun _ => ⟨_, ⟨(), rfl⟩, rfl⟩))))) (fun lock63 ds hE => by obtain ⟨_, rfl⟩ := hE; exact (SJ.one (SJ.retP (PJ.args (PA.cons (fun _ => rfl) PA.nil) (fun h64 => o_tuple (sqL (t := tEnt)) lock63 h64)) rfl (fun _ => rfl))))))))))))))))
def F_are_dependencies (value1 : D) : T Bool := (T.bind (T.bind (T.bind (T.opt (isiS "tuple" ((v tD) value1))) fun b => T.pure (!b)) fun b => if b then T.pure true else (T.bind (lenD value1) fun a4 => T.pure (decide (a4 > (6 : Int))))) fun b => if b then (T.pure false) else (T.bind (T.bind (cast (tU tD) value1) fun l6 => compT l6 (fun part5 => (T.pure true)) (fun part5 => (F_is_dependency part5))) fun a8 => (T.pure (a8.all id))))
theorem ok_F_are_dependencies (value1 : D) : ∀ h, SE (v tB) (run_are_dependencies [(v tD) value1] h) (F_are_dependencies value1 h) := by
  intro h
  refine run_se (m := 2) (fb := b_are_dependencies) rfl ?_ h
  unfold b_are_dependencies F_are_dependencies
  exact (SJ.ifM (J.tOr (J.tNot (J.tTruB (J.isiP (fun _ => rfl)))) (J.tOf (J.binMP (ea := (v tI)) (ec := (v tB)) (J.args (ec := (v tI)) (AC.p (fun _ => rfl) (AC.nil (fun h2 => dy_se tI _)))) (fun _ => rfl) (fun a4 h3 => o_gti a4 (6 : Int) h3)))) (SJ.retP (fun _ => rfl) rfl (fun _ => rfl)) (SJ.nil (SJ.one (SJ.retF (J.args (ec := (v tB)) (AC.m (ea := (v (tL tB))) (J.fz (J.comp (u := tB) (J.seq (fxU (t := tD)) (J.castP (t := (tU tD)) (fun _ => rfl))) (fun part5 => ⟨_, rfl, (PJ.j (e := idB) pj_yes), (J.args (ec := (v tB)) (AC.p (fun _ => rfl) (AC.nil (call_se rfl rfl (fun _ => rfl) (fun h => ok_F_is_dependency part5 h)))))⟩))) (fun a8 => (AC.nil (fun h7 => o_all a8 h7))))) (fun _ => rfl)))))
theorem hi_F_are_dependencies (a0 : D) : HI (F_are_dependencies a0) := by
  unfold F_are_dependencies
  repeat' first | (with_reducible exact HI.pure _) | (with_reducible exact HI.raise _) | (with_reducible exact HI.bad) | (with_reducible exact HI.opt _) | (with_reducible exact HI.ixT _ _) | (with_reducible exact HI.lenT _) | (with_reducible exact HI.slS _ _ _) | (with_reducible exact HI.slD _ _ _) | (with_reducible exact HI.ltT _ _ _ _) | (with_reducible exact HI.leT _ _ _ _) | (with_reducible exact HI.gtT _ _ _ _) | (with_reducible exact HI.geT _ _ _ _) | (with_reducible exact HI.modT _ _) | (with_reducible exact HI.mulT _ _) | (with_reducible exact HI.catT _ _) | (with_reducible exact HI.catS _ _) | (with_reducible exact HI.pushT _ _) | (with_reducible exact HI.intT _) | (with_reducible exact HI.strT _) | (with_reducible exact HI.splitT _ _) | (with_reducible exact HI.joinT _ _) | (with_reducible exact HI.rngT _) | (with_reducible exact HI.rng2T _ _) | (with_reducible exact HI.isET _ _ _) | (with_reducible exact HI.addD _ _) | (with_reducible exact HI.ixD _ _) | (with_reducible exact HI.ixS _ _) | (with_reducible exact HI.lenD _) | (with_reducible exact HI.eqD _ _) | (with_reducible exact HI.neD _ _) | (with_reducible exact HI.inD _ _ _ _) | (with_reducible exact HI.countD _ _ _) | (with_reducible exact HI.sortT _ _) | (with_reducible exact HI.cast _ _) | (with_reducible exact HI.compP _ _ _) | (with_reducible exact HI.compM _ _) | (with_reducible exact hi_F_is_dependency _) | (with_reducible apply HI.bind) | (with_reducible apply HI.ite) | (with_reducible apply HI.onN) | (with_reducible apply HI.go) | (with_reducible apply HI.calm) | (with_reducible apply HI.compT) | (with_reducible apply HI.for0) | (with_reducible apply HI.for_) | (with_reducible apply HI.while0) | (with_reducible apply HI.while_) | (with_reducible apply HI.tryT) | (with_reducible apply HI.hdT) | (with_reducible apply HI.guard) | intro _ | split
def F_is_entry (value1 : D) : T Bool := (T.bind (T.opt (isiS "tuple" ((v tD) value1))) fun b => if b then (T.bind (T.bind (lenD value1) fun a4 => T.pure (decide (a4 = (3 : Int)))) fun b => if b then (T.bind (T.bind (fun h => dy tD (gSl (.val value1) none (some (2 : Int)) h)) fun a5 => (F_is_dependency a5)) fun b => if b then (T.bind (ixD value1 (2 : Int)) fun a7 => (F_is_version a7)) else T.pure false) else T.pure false) else T.pure false)
theorem ok_F_is_entry (value1 : D) : ∀ h, SE (v tB) (run_is_entry [(v tD) value1] h) (F_is_entry value1 h) := by
  intro h
  refine run_se (m := 1) (fb := b_is_entry) rfl ?_ h
  unfold b_is_entry F_is_entry
  exact (SJ.one (SJ.retF (J.andV (J.isiP (fun _ => rfl)) (J.andV (J.binMP (ea := (v tI)) (ec := (v tB)) (J.args (ec := (v tI)) (AC.p (fun _ => rfl) (AC.nil (fun h2 => dy_se tI _)))) (fun _ => rfl) (fun a4 h3 => o_eqi a4 (3 : Int) h3)) (J.andV (J.args (ec := (v tB)) (AC.m (ea := (v tD)) (J.slP (fun _ => rfl) po_n (po_s (fun _ => rfl)) (fun h => dy_se tD _)) (fun a5 => (AC.nil (call_se rfl rfl (fun _ => rfl) (fun h => ok_F_is_dependency a5 h)))))) (J.args (ec := (v tB)) (AC.m (ea := (v tD)) (J.binPP (ec := (v tD)) (fun _ => rfl) (fun _ => rfl) (fun h6 => o_ixD value1 (2 : Int) h6)) (fun a7 => (AC.nil (call_se rfl rfl (fun _ => rfl) (fun h => ok_F_is_version a7 h))))))))) (fun _ => rfl)))
theorem hi_F_is_entry (a0 : D) : HI (F_is_entry a0) := by
  unfold F_is_entry
  repeat' first | (with_reducible exact HI.pure _) | (with_reducible exact HI.raise _) | (with_reducible exact HI.bad) | (with_reducible exact HI.opt _) | (with_reducible exact HI.ixT _ _) | (with_reducible exact HI.lenT _) | (with_reducible exact HI.slS _ _ _) | (with_reducible exact HI.slD _ _ _) | (with_reducible exact HI.ltT _ _ _ _) | (with_reducible exact HI.leT _ _ _ _) | (with_reducible exact HI.gtT _ _ _ _) | (with_reducible exact HI.geT _ _ _ _) | (with_reducible exact HI.modT _ _) | (with_reducible exact HI.mulT _ _) | (with_reducible exact HI.catT _ _) | (with_reducible exact HI.catS _ _) | (with_reducible exact HI.pushT _ _) | (with_reducible exact HI.intT _) | (with_reducible exact HI.strT _) | (with_reducible exact HI.splitT _ _) | (with_reducible exact HI.joinT _ _) | (with_reducible exact HI.rngT _) | (with_reducible exact HI.rng2T _ _) | (with_reducible exact HI.isET _ _ _) | (with_reducible exact HI.addD _ _) | (with_reducible exact HI.ixD _ _) | (with_reducible exact HI.ixS _ _) | (with_reducible exact HI.lenD _) | (with_reducible exact HI.eqD _ _) | (with_reducible exact HI.neD _ _) | (with_reducible exact HI.inD _ _ _ _) | (with_reducible exact HI.countD _ _ _) | (with_reducible exact HI.sortT _ _) | (with_reducible exact HI.cast _ _) | (with_reducible exact HI.compP _ _ _) | (with_reducible exact HI.compM _ _) | (with_reducible exact hi_F_is_dependency _) | (with_reducible exact hi_F_is_version _) | (with_reducible apply HI.bind) | (with_reducible apply HI.ite) | (with_reducible apply HI.onN) | (with_reducible apply HI.go) | (with_reducible apply HI.calm) | (with_reducible apply HI.compT) | (with_reducible apply HI.for0) | (with_reducible apply HI.for_) | (with_reducible apply HI.while0) | (with_reducible apply HI.while_) | (with_reducible apply HI.tryT) | (with_reducible apply HI.hdT) | (with_reducible apply HI.guard) | intro _ | split
def F_is_manifest (value1 : D) : T Bool := (T.bind (T.bind (T.bind (T.opt (isiS "tuple" ((v tD) value1))) fun b => T.pure (!b)) fun b => if b then T.pure true else (T.bind (T.bind (lenD value1) fun a4 => T.pure (!decide (a4 = (4 : Int)))) fun b => if b then T.pure true else (T.bind (T.bind (T.bind (ixD value1 (0 : Int)) fun a6 => (F_is_name a6)) fun b => T.pure (!b)) fun b => if b then T.pure true else (T.bind (T.bind (ixD value1 (1 : Int)) fun a8 => (F_is_version a8)) fun b => T.pure (!b))))) fun b => if b then (T.pure false) else (T.bind (T.bind (T.bind (T.bind (ixD value1 (2 : Int)) fun a10 => (F_are_dependencies a10)) fun b => T.pure (!b)) fun b => if b then T.pure true else (T.bind (T.bind (ixD value1 (3 : Int)) fun a12 => (F_are_dependencies a12)) fun b => T.pure (!b))) fun b => if b then (T.pure false) else (T.bind (T.bind (T.bind (T.bind (ixD value1 (0 : Int)) fun a15 => (T.pure ([a15] : (List D)))) fun a21 => T.bind (T.bind (T.bind (ixD value1 (2 : Int)) fun d => cast (tU tD) d) fun l19 => compT l19 (fun part17 => (T.pure true)) (fun part17 => (ixD part17 (0 : Int)))) fun a22 => (catT a21 a22)) fun a28 => T.bind (T.bind (T.bind (ixD value1 (3 : Int)) fun d => cast (tU tD) d) fun l26 => compT l26 (fun part24 => (T.pure true)) (fun part24 => (ixD part24 (0 : Int)))) fun a29 => (catT a28 a29)) fun a30 => (F_are_different a30))))
theorem ok_F_is_manifest (value1 : D) : ∀ h, SE (v tB) (run_is_manifest [(v tD) value1] h) (F_is_manifest value1 h) := by
  intro h
  refine run_se (m := 2) (fb := b_is_manifest) rfl ?_ h
  unfold b_is_manifest F_is_manifest
  exact (SJ.ifM (J.tOr (J.tNot (J.tTruB (J.isiP (fun _ => rfl)))) (J.tOr (J.tOf (J.binMP (ea := (v tI)) (ec := (v tB)) (J.args (ec := (v tI)) (AC.p (fun _ => rfl) (AC.nil (fun h2 => dy_se tI _)))) (fun _ => rfl) (fun a4 h3 => o_nei a4 (4 : Int) h3))) (J.tOr (J.tNot (J.tTruB (J.args (ec := (v tB)) (AC.m (ea := (v tD)) (J.binPP (ec := (v tD)) (fun _ => rfl) (fun _ => rfl) (fun h5 => o_ixD value1 (0 : Int) h5)) (fun a6 => (AC.nil (call_se rfl rfl (fun _ => rfl) (fun h => ok_F_is_name a6 h)))))))) (J.tNot (J.tTruB (J.args (ec := (v tB)) (AC.m (ea := (v tD)) (J.binPP (ec := (v tD)) (fun _ => rfl) (fun _ => rfl) (fun h7 => o_ixD value1 (1 : Int) h7)) (fun a8 => (AC.nil (call_se rfl rfl (fun _ => rfl) (fun h => ok_F_is_version a8 h))))))))))) (SJ.retP (fun _ => rfl) rfl (fun _ => rfl)) (SJ.nil (SJ.ifM (J.tOr (J.tNot (J.tTruB (J.args (ec := (v tB)) (AC.m (ea := (v tD)) (J.binPP (ec := (v tD)) (fun _ => rfl) (fun _ => rfl) (fun h9 => o_ixD value1 (2 : Int) h9)) (fun a10 => (AC.nil (call_se rfl rfl (fun _ => rfl) (fun h => ok_F_are_dependencies a10 h)))))))) (J.tNot (J.tTruB (J.args (ec := (v tB)) (AC.m (ea := (v tD)) (J.binPP (ec := (v tD)) (fun _ => rfl) (fun _ => rfl) (fun h11 => o_ixD value1 (3 : Int) h11)) (fun a12 => (AC.nil (call_se rfl rfl (fun _ => rfl) (fun h => ok_F_are_dependencies a12 h))))))))) (SJ.retP (fun _ => rfl) rfl (fun _ => rfl)) (SJ.nil (SJ.one (SJ.retF (J.args (ec := (v tB)) (AC.m (ea := (v (tL tD))) (J.binMM (ea := (v (tL tD))) (eb := (v (tL tD))) (ec := (v (tL tD))) (J.binMM (ea := (v (tL tD))) (eb := (v (tL tD))) (ec := (v (tL tD))) (J.args (ec := (v (tL tD))) (AC.m (ea := (v tD)) (J.binPP (ec := (v tD)) (fun _ => rfl) (fun _ => rfl) (fun h13 => o_ixD value1 (0 : Int) h13)) (fun a15 => (AC.nil (fun h14 => rfl))))) (J.fz (J.comp (u := tD) (J.seq (fxU (t := tD)) (J.cast (t := (tU tD)) (J.binPP (ec := (v tD)) (fun _ => rfl) (fun _ => rfl) (fun h16 => o_ixD value1 (2 : Int) h16)))) (fun part17 => ⟨_, rfl, (PJ.j (e := idB) pj_yes), (J.binPP (ec := (v tD)) (fun _ => rfl) (fun _ => rfl) (fun h18 => o_ixD part17 (0 : Int) h18))⟩))) (fun a21 a22 h20 => o_catL (t := tD) a21 a22 h20)) (J.fz (J.comp (u := tD) (J.seq (fxU (t := tD)) (J.cast (t := (tU tD)) (J.binPP (ec := (v tD)) (fun _ => rfl) (fun _ => rfl) (fun h23 => o_ixD value1 (3 : Int) h23)))) (fun part24 => ⟨_, rfl, (PJ.j (e := idB) pj_yes), (J.binPP (ec := (v tD)) (fun _ => rfl) (fun _ => rfl) (fun h25 => o_ixD part24 (0 : Int) h25))⟩))) (fun a28 a29 h27 => o_catL (t := tD) a28 a29 h27)) (fun a30 => (AC.nil (call_se rfl rfl (fun _ => rfl) (fun h => ok_F_are_different a30 h)))))) (fun _ => rfl)))))))
theorem hi_F_is_manifest (a0 : D) : HI (F_is_manifest a0) := by
  unfold F_is_manifest
  repeat' first | (with_reducible exact HI.pure _) | (with_reducible exact HI.raise _) | (with_reducible exact HI.bad) | (with_reducible exact HI.opt _) | (with_reducible exact HI.ixT _ _) | (with_reducible exact HI.lenT _) | (with_reducible exact HI.slS _ _ _) | (with_reducible exact HI.slD _ _ _) | (with_reducible exact HI.ltT _ _ _ _) | (with_reducible exact HI.leT _ _ _ _) | (with_reducible exact HI.gtT _ _ _ _) | (with_reducible exact HI.geT _ _ _ _) | (with_reducible exact HI.modT _ _) | (with_reducible exact HI.mulT _ _) | (with_reducible exact HI.catT _ _) | (with_reducible exact HI.catS _ _) | (with_reducible exact HI.pushT _ _) | (with_reducible exact HI.intT _) | (with_reducible exact HI.strT _) | (with_reducible exact HI.splitT _ _) | (with_reducible exact HI.joinT _ _) | (with_reducible exact HI.rngT _) | (with_reducible exact HI.rng2T _ _) | (with_reducible exact HI.isET _ _ _) | (with_reducible exact HI.addD _ _) | (with_reducible exact HI.ixD _ _) | (with_reducible exact HI.ixS _ _) | (with_reducible exact HI.lenD _) | (with_reducible exact HI.eqD _ _) | (with_reducible exact HI.neD _ _) | (with_reducible exact HI.inD _ _ _ _) | (with_reducible exact HI.countD _ _ _) | (with_reducible exact HI.sortT _ _) | (with_reducible exact HI.cast _ _) | (with_reducible exact HI.compP _ _ _) | (with_reducible exact HI.compM _ _) | (with_reducible exact hi_F_is_name _) | (with_reducible exact hi_F_is_version _) | (with_reducible exact hi_F_are_dependencies _) | (with_reducible exact hi_F_are_different _) | (with_reducible apply HI.bind) | (with_reducible apply HI.ite) | (with_reducible apply HI.onN) | (with_reducible apply HI.go) | (with_reducible apply HI.calm) | (with_reducible apply HI.compT) | (with_reducible apply HI.for0) | (with_reducible apply HI.for_) | (with_reducible apply HI.while0) | (with_reducible apply HI.while_) | (with_reducible apply HI.tryT) | (with_reducible apply HI.hdT) | (with_reducible apply HI.guard) | intro _ | split
def F_check_project (value1 : D) : T Unit := (T.bind (T.bind (T.bind (F_are_dependencies value1) fun b => T.pure (!b)) fun b => if b then T.pure true else (T.bind (T.bind (T.bind (cast (tU tD) value1) fun l4 => compT l4 (fun part2 => (T.pure true)) (fun part2 => (ixD part2 (0 : Int)))) fun a5 => (F_are_different a5)) fun b => T.pure (!b))) fun b => if b then (T.raise ⟨"BadProject", []⟩) else (T.pure ()))
theorem ok_F_check_project (value1 : D) : ∀ h, SE (v tN) (run_check_project [(v tD) value1] h) (F_check_project value1 h) := by
  intro h
  refine run_se (m := 2) (fb := b_check_project) rfl ?_ h
  unfold b_check_project F_check_project
  exact (SJ.one (SJ.ifM (J.tOr (J.tNot (J.tTruB (J.args (ec := (v tB)) (AC.p (fun _ => rfl) (AC.nil (call_se rfl rfl (fun _ => rfl) (fun h => ok_F_are_dependencies value1 h))))))) (J.tNot (J.tTruB (J.args (ec := (v tB)) (AC.m (ea := (v (tL tD))) (J.fz (J.comp (u := tD) (J.seq (fxU (t := tD)) (J.castP (t := (tU tD)) (fun _ => rfl))) (fun part2 => ⟨_, rfl, (PJ.j (e := idB) pj_yes), (J.binPP (ec := (v tD)) (fun _ => rfl) (fun _ => rfl) (fun h3 => o_ixD part2 (0 : Int) h3))⟩))) (fun a5 => (AC.nil (call_se rfl rfl (fun _ => rfl) (fun h => ok_F_are_different a5 h))))))))) SJ.raise (SJ.nil (SJ.end_ (fun _ => rfl)))))
theorem hi_F_check_project (a0 : D) : HI (F_check_project a0) := by
  unfold F_check_project
  repeat' first | (with_reducible exact HI.pure _) | (with_reducible exact HI.raise _) | (with_reducible exact HI.bad) | (with_reducible exact HI.opt _) | (with_reducible exact HI.ixT _ _) | (with_reducible exact HI.lenT _) | (with_reducible exact HI.slS _ _ _) | (with_reducible exact HI.slD _ _ _) | (with_reducible exact HI.ltT _ _ _ _) | (with_reducible exact HI.leT _ _ _ _) | (with_reducible exact HI.gtT _ _ _ _) | (with_reducible exact HI.geT _ _ _ _) | (with_reducible exact HI.modT _ _) | (with_reducible exact HI.mulT _ _) | (with_reducible exact HI.catT _ _) | (with_reducible exact HI.catS _ _) | (with_reducible exact HI.pushT _ _) | (with_reducible exact HI.intT _) | (with_reducible exact HI.strT _) | (with_reducible exact HI.splitT _ _) | (with_reducible exact HI.joinT _ _) | (with_reducible exact HI.rngT _) | (with_reducible exact HI.rng2T _ _) | (with_reducible exact HI.isET _ _ _) | (with_reducible exact HI.addD _ _) | (with_reducible exact HI.ixD _ _) | (with_reducible exact HI.ixS _ _) | (with_reducible exact HI.lenD _) | (with_reducible exact HI.eqD _ _) | (with_reducible exact HI.neD _ _) | (with_reducible exact HI.inD _ _ _ _) | (with_reducible exact HI.countD _ _ _) | (with_reducible exact HI.sortT _ _) | (with_reducible exact HI.cast _ _) | (with_reducible exact HI.compP _ _ _) | (with_reducible exact HI.compM _ _) | (with_reducible exact hi_F_are_dependencies _) | (with_reducible exact hi_F_are_different _) | (with_reducible apply HI.bind) | (with_reducible apply HI.ite) | (with_reducible apply HI.onN) | (with_reducible apply HI.go) | (with_reducible apply HI.calm) | (with_reducible apply HI.compT) | (with_reducible apply HI.for0) | (with_reducible apply HI.for_) | (with_reducible apply HI.while0) | (with_reducible apply HI.while_) | (with_reducible apply HI.tryT) | (with_reducible apply HI.hdT) | (with_reducible apply HI.guard) | intro _ | split
def F_check_lock (value1 : D) : T Unit := (T.bind (T.bind (T.bind (T.opt (isiS "tuple" ((v tD) value1))) fun b => T.pure (!b)) fun b => if b then T.pure true else (T.bind (T.bind (lenD value1) fun a4 => T.pure (decide (a4 > (102 : Int)))) fun b => if b then T.pure true else (T.bind (T.bind (T.bind (cast (tU tD) value1) fun l6 => compT l6 (fun part5 => (T.pure true)) (fun part5 => (F_is_entry part5))) fun a8 => (T.pure (a8.all id))) fun b => T.pure (!b)))) fun b => if b then (T.raise ⟨"BadLock", []⟩) else (T.bind (T.bind (T.bind (T.bind (cast (tU tD) value1) fun l10 => compT l10 (fun part9 => (T.pure true)) (fun part9 => (fun h => dy tD (gSl (.val part9) none (some (2 : Int)) h)))) fun a11 => (F_are_different a11)) fun b => T.pure (!b)) fun b => if b then (T.raise ⟨"BadLock", []⟩) else (T.pure ())))
theorem ok_F_check_lock (value1 : D) : ∀ h, SE (v tN) (run_check_lock [(v tD) value1] h) (F_check_lock value1 h) := by
  intro h
  refine run_se (m := 2) (fb := b_check_lock) rfl ?_ h
  unfold b_check_lock F_check_lock
  exact (SJ.ifM (J.tOr (J.tNot (J.tTruB (J.isiP (fun _ => rfl)))) (J.tOr (J.tOf (J.binMP (ea := (v tI)) (ec := (v tB)) (J.args (ec := (v tI)) (AC.p (fun _ => rfl) (AC.nil (fun h2 => dy_se tI _)))) (fun _ => rfl) (fun a4 h3 => o_gti a4 (102 : Int) h3))) (J.tNot (J.tTruB (J.args (ec := (v tB)) (AC.m (ea := (v (tL tB))) (J.fz (J.comp (u := tB) (J.seq (fxU (t := tD)) (J.castP (t := (tU tD)) (fun _ => rfl))) (fun part5 => ⟨_, rfl, (PJ.j (e := idB) pj_yes), (J.args (ec := (v tB)) (AC.p (fun _ => rfl) (AC.nil (call_se rfl rfl (fun _ => rfl) (fun h => ok_F_is_entry part5 h)))))⟩))) (fun a8 => (AC.nil (fun h7 => o_all a8 h7))))))))) SJ.raise (SJ.nil (SJ.one (SJ.ifM (J.tNot (J.tTruB (J.args (ec := (v tB)) (AC.m (ea := (v (tL tD))) (J.fz (J.comp (u := tD) (J.seq (fxU (t := tD)) (J.castP (t := (tU tD)) (fun _ => rfl))) (fun part9 => ⟨_, rfl, (PJ.j (e := idB) pj_yes), (J.slP (fun _ => rfl) po_n (po_s (fun _ => rfl)) (fun h => dy_se tD _))⟩))) (fun a11 => (AC.nil (call_se rfl rfl (fun _ => rfl) (fun h => ok_F_are_different a11 h)))))))) SJ.raise (SJ.nil (SJ.end_ (fun _ => rfl)))))))
theorem hi_F_check_lock (a0 : D) : HI (F_check_lock a0) := by
  unfold F_check_lock
  repeat' first | (with_reducible exact HI.pure _) | (with_reducible exact HI.raise _) | (with_reducible exact HI.bad) | (with_reducible exact HI.opt _) | (with_reducible exact HI.ixT _ _) | (with_reducible exact HI.lenT _) | (with_reducible exact HI.slS _ _ _) | (with_reducible exact HI.slD _ _ _) | (with_reducible exact HI.ltT _ _ _ _) | (with_reducible exact HI.leT _ _ _ _) | (with_reducible exact HI.gtT _ _ _ _) | (with_reducible exact HI.geT _ _ _ _) | (with_reducible exact HI.modT _ _) | (with_reducible exact HI.mulT _ _) | (with_reducible exact HI.catT _ _) | (with_reducible exact HI.catS _ _) | (with_reducible exact HI.pushT _ _) | (with_reducible exact HI.intT _) | (with_reducible exact HI.strT _) | (with_reducible exact HI.splitT _ _) | (with_reducible exact HI.joinT _ _) | (with_reducible exact HI.rngT _) | (with_reducible exact HI.rng2T _ _) | (with_reducible exact HI.isET _ _ _) | (with_reducible exact HI.addD _ _) | (with_reducible exact HI.ixD _ _) | (with_reducible exact HI.ixS _ _) | (with_reducible exact HI.lenD _) | (with_reducible exact HI.eqD _ _) | (with_reducible exact HI.neD _ _) | (with_reducible exact HI.inD _ _ _ _) | (with_reducible exact HI.countD _ _ _) | (with_reducible exact HI.sortT _ _) | (with_reducible exact HI.cast _ _) | (with_reducible exact HI.compP _ _ _) | (with_reducible exact HI.compM _ _) | (with_reducible exact hi_F_is_entry _) | (with_reducible exact hi_F_are_different _) | (with_reducible apply HI.bind) | (with_reducible apply HI.ite) | (with_reducible apply HI.onN) | (with_reducible apply HI.go) | (with_reducible apply HI.calm) | (with_reducible apply HI.compT) | (with_reducible apply HI.for0) | (with_reducible apply HI.for_) | (with_reducible apply HI.while0) | (with_reducible apply HI.while_) | (with_reducible apply HI.tryT) | (with_reducible apply HI.hdT) | (with_reducible apply HI.guard) | intro _ | split
def F_are_packages (value1 : D) : T Bool := (T.bind (T.bind (T.bind (T.opt (isiS "tuple" ((v tD) value1))) fun b => T.pure (!b)) fun b => if b then T.pure true else (T.bind (T.bind (lenD value1) fun a4 => T.pure (decide (a4 > (16 : Int)))) fun b => if b then T.pure true else (T.bind (T.bind (T.bind (cast (tU tD) value1) fun l6 => compT l6 (fun part5 => (T.pure true)) (fun part5 => (F_is_manifest part5))) fun a8 => (T.pure (a8.all id))) fun b => T.pure (!b)))) fun b => if b then (T.pure false) else (T.bind (T.bind (cast (tU tD) value1) fun l10 => compT l10 (fun part9 => (T.pure true)) (fun part9 => (fun h => dy tD (gSl (.val part9) none (some (2 : Int)) h)))) fun a11 => (F_are_different a11)))
theorem ok_F_are_packages (value1 : D) : ∀ h, SE (v tB) (run_are_packages [(v tD) value1] h) (F_are_packages value1 h) := by
  intro h
  refine run_se (m := 2) (fb := b_are_packages) rfl ?_ h
  unfold b_are_packages F_are_packages
  exact (SJ.ifM (J.tOr (J.tNot (J.tTruB (J.isiP (fun _ => rfl)))) (J.tOr (J.tOf (J.binMP (ea := (v tI)) (ec := (v tB)) (J.args (ec := (v tI)) (AC.p (fun _ => rfl) (AC.nil (fun h2 => dy_se tI _)))) (fun _ => rfl) (fun a4 h3 => o_gti a4 (16 : Int) h3))) (J.tNot (J.tTruB (J.args (ec := (v tB)) (AC.m (ea := (v (tL tB))) (J.fz (J.comp (u := tB) (J.seq (fxU (t := tD)) (J.castP (t := (tU tD)) (fun _ => rfl))) (fun part5 => ⟨_, rfl, (PJ.j (e := idB) pj_yes), (J.args (ec := (v tB)) (AC.p (fun _ => rfl) (AC.nil (call_se rfl rfl (fun _ => rfl) (fun h => ok_F_is_manifest part5 h)))))⟩))) (fun a8 => (AC.nil (fun h7 => o_all a8 h7))))))))) (SJ.retP (fun _ => rfl) rfl (fun _ => rfl)) (SJ.nil (SJ.one (SJ.retF (J.args (ec := (v tB)) (AC.m (ea := (v (tL tD))) (J.fz (J.comp (u := tD) (J.seq (fxU (t := tD)) (J.castP (t := (tU tD)) (fun _ => rfl))) (fun part9 => ⟨_, rfl, (PJ.j (e := idB) pj_yes), (J.slP (fun _ => rfl) po_n (po_s (fun _ => rfl)) (fun h => dy_se tD _))⟩))) (fun a11 => (AC.nil (call_se rfl rfl (fun _ => rfl) (fun h => ok_F_are_different a11 h)))))) (fun _ => rfl)))))
theorem hi_F_are_packages (a0 : D) : HI (F_are_packages a0) := by
  unfold F_are_packages
  repeat' first | (with_reducible exact HI.pure _) | (with_reducible exact HI.raise _) | (with_reducible exact HI.bad) | (with_reducible exact HI.opt _) | (with_reducible exact HI.ixT _ _) | (with_reducible exact HI.lenT _) | (with_reducible exact HI.slS _ _ _) | (with_reducible exact HI.slD _ _ _) | (with_reducible exact HI.ltT _ _ _ _) | (with_reducible exact HI.leT _ _ _ _) | (with_reducible exact HI.gtT _ _ _ _) | (with_reducible exact HI.geT _ _ _ _) | (with_reducible exact HI.modT _ _) | (with_reducible exact HI.mulT _ _) | (with_reducible exact HI.catT _ _) | (with_reducible exact HI.catS _ _) | (with_reducible exact HI.pushT _ _) | (with_reducible exact HI.intT _) | (with_reducible exact HI.strT _) | (with_reducible exact HI.splitT _ _) | (with_reducible exact HI.joinT _ _) | (with_reducible exact HI.rngT _) | (with_reducible exact HI.rng2T _ _) | (with_reducible exact HI.isET _ _ _) | (with_reducible exact HI.addD _ _) | (with_reducible exact HI.ixD _ _) | (with_reducible exact HI.ixS _ _) | (with_reducible exact HI.lenD _) | (with_reducible exact HI.eqD _ _) | (with_reducible exact HI.neD _ _) | (with_reducible exact HI.inD _ _ _ _) | (with_reducible exact HI.countD _ _ _) | (with_reducible exact HI.sortT _ _) | (with_reducible exact HI.cast _ _) | (with_reducible exact HI.compP _ _ _) | (with_reducible exact HI.compM _ _) | (with_reducible exact hi_F_is_manifest _) | (with_reducible exact hi_F_are_different _) | (with_reducible apply HI.bind) | (with_reducible apply HI.ite) | (with_reducible apply HI.onN) | (with_reducible apply HI.go) | (with_reducible apply HI.calm) | (with_reducible apply HI.compT) | (with_reducible apply HI.for0) | (with_reducible apply HI.for_) | (with_reducible apply HI.while0) | (with_reducible apply HI.while_) | (with_reducible apply HI.tryT) | (with_reducible apply HI.hdT) | (with_reducible apply HI.guard) | intro _ | split
def F_check_packages (value1 : D) : T Unit := (T.bind (T.bind (F_are_packages value1) fun b => T.pure (!b)) fun b => if b then (T.raise ⟨"BadPackages", []⟩) else (T.pure ()))
theorem ok_F_check_packages (value1 : D) : ∀ h, SE (v tN) (run_check_packages [(v tD) value1] h) (F_check_packages value1 h) := by
  intro h
  refine run_se (m := 1) (fb := b_check_packages) rfl ?_ h
  unfold b_check_packages F_check_packages
  exact (SJ.one (SJ.ifM (J.tNot (J.tTruB (J.args (ec := (v tB)) (AC.p (fun _ => rfl) (AC.nil (call_se rfl rfl (fun _ => rfl) (fun h => ok_F_are_packages value1 h))))))) SJ.raise (SJ.nil (SJ.end_ (fun _ => rfl)))))
theorem hi_F_check_packages (a0 : D) : HI (F_check_packages a0) := by
  unfold F_check_packages
  repeat' first | (with_reducible exact HI.pure _) | (with_reducible exact HI.raise _) | (with_reducible exact HI.bad) | (with_reducible exact HI.opt _) | (with_reducible exact HI.ixT _ _) | (with_reducible exact HI.lenT _) | (with_reducible exact HI.slS _ _ _) | (with_reducible exact HI.slD _ _ _) | (with_reducible exact HI.ltT _ _ _ _) | (with_reducible exact HI.leT _ _ _ _) | (with_reducible exact HI.gtT _ _ _ _) | (with_reducible exact HI.geT _ _ _ _) | (with_reducible exact HI.modT _ _) | (with_reducible exact HI.mulT _ _) | (with_reducible exact HI.catT _ _) | (with_reducible exact HI.catS _ _) | (with_reducible exact HI.pushT _ _) | (with_reducible exact HI.intT _) | (with_reducible exact HI.strT _) | (with_reducible exact HI.splitT _ _) | (with_reducible exact HI.joinT _ _) | (with_reducible exact HI.rngT _) | (with_reducible exact HI.rng2T _ _) | (with_reducible exact HI.isET _ _ _) | (with_reducible exact HI.addD _ _) | (with_reducible exact HI.ixD _ _) | (with_reducible exact HI.ixS _ _) | (with_reducible exact HI.lenD _) | (with_reducible exact HI.eqD _ _) | (with_reducible exact HI.neD _ _) | (with_reducible exact HI.inD _ _ _ _) | (with_reducible exact HI.countD _ _ _) | (with_reducible exact HI.sortT _ _) | (with_reducible exact HI.cast _ _) | (with_reducible exact HI.compP _ _ _) | (with_reducible exact HI.compM _ _) | (with_reducible exact hi_F_are_packages _) | (with_reducible apply HI.bind) | (with_reducible apply HI.ite) | (with_reducible apply HI.onN) | (with_reducible apply HI.go) | (with_reducible apply HI.calm) | (with_reducible apply HI.compT) | (with_reducible apply HI.for0) | (with_reducible apply HI.for_) | (with_reducible apply HI.while0) | (with_reducible apply HI.while_) | (with_reducible apply HI.tryT) | (with_reducible apply HI.hdT) | (with_reducible apply HI.guard) | intro _ | split
def F_law_kind (call1 : Str) (value2 : D) : T Str := (T.bind (tryT (if (decide (call1 = z_packages)) then (T.bind (F_check_packages value2) fun _ => (T.pure (Jn.nx ()))) else (if (decide (call1 = z_project)) then (T.bind (F_check_project value2) fun _ => (T.pure (Jn.nx ()))) else (T.bind (F_check_lock value2) fun _ => (T.pure (Jn.nx ()))))) (fun x => hdT (exSub exRows x.cls "BadPackages") (T.calm (T.bind (T.bind (T.bind (isET (exSub exRows) "ShelfError" x) fun a39 => (T.pure (if a39 then 1 else 0 : Int))) fun a41 => (ixT ([z_other, z_packages] : List Str) a41)) fun a42 => T.pure (Jn.out a42))) (hdT (exSub exRows x.cls "BadProject") (T.calm (T.bind (T.bind (T.bind (isET (exSub exRows) "ShelfError" x) fun a33 => (T.pure (if a33 then 1 else 0 : Int))) fun a35 => (ixT ([z_other, z_project] : List Str) a35)) fun a36 => T.pure (Jn.out a36))) (hdT (exSub exRows x.cls "BadLock") (T.calm (T.bind (T.bind (T.bind (isET (exSub exRows) "ShelfError" x) fun a27 => (T.pure (if a27 then 1 else 0 : Int))) fun a29 => (ixT ([z_other, z_lock] : List Str) a29)) fun a30 => T.pure (Jn.out a30))) (T.raise x))))) (Jn.go (fun (_ : Unit) => (T.pure z_done))))
theorem ok_F_law_kind (call1 : Str) (value2 : D) : ∀ h, SE (v tS) (run_law_kind [(v tS) call1, (v tD) value2] h) (F_law_kind call1 value2 h) := by
  intro h
  refine run_se (m := 3) (fb := b_law_kind) rfl ?_ h
  unfold b_law_kind F_law_kind
  exact (SJ.joinJ (E := (fun (_ : Unit) (ds : DS) => ∃ _ : Unit, ds = [(some ((v tS) call1)), (some ((v tD) value2)), none])) (SJ.try_ (clean_cons trivial (clean_cons trivial (clean_cons trivial clean_nil))) (SJ0.ifP (PJ.tOf (PJ.bin (fun _ => rfl) (PJ.sc ez_packages) (fun h23 => o_eqs call1 z_packages h23))) (SJ0.expr (J.args (ec := (v tN)) (AC.p (fun _ => rfl) (AC.nil (call_se rfl rfl (fun _ => rfl) (fun h => ok_F_check_packages value2 h))))) (fun h => ⟨(fun _ => ⟨_, ⟨(), rfl⟩, rfl⟩) h, (clean_cons trivial (clean_cons trivial (clean_cons trivial clean_nil)))⟩)) (SJ0.ifP (PJ.tOf (PJ.bin (fun _ => rfl) (PJ.sc ez_project) (fun h24 => o_eqs call1 z_project h24))) (SJ0.expr (J.args (ec := (v tN)) (AC.p (fun _ => rfl) (AC.nil (call_se rfl rfl (fun _ => rfl) (fun h => ok_F_check_project value2 h))))) (fun h => ⟨(fun _ => ⟨_, ⟨(), rfl⟩, rfl⟩) h, (clean_cons trivial (clean_cons trivial (clean_cons trivial clean_nil)))⟩)) (SJ0.expr (J.args (ec := (v tN)) (AC.p (fun _ => rfl) (AC.nil (call_se rfl rfl (fun _ => rfl) (fun h => ok_F_check_lock value2 h))))) (fun h => ⟨(fun _ => ⟨_, ⟨(), rfl⟩, rfl⟩) h, (clean_cons trivial (clean_cons trivial (clean_cons trivial clean_nil)))⟩)))) (HJ.named (fun x => (SJ.one (SJ.ret (inj := fun a42 => (Jn.out a42)) (J.binPM (eb := (v tI)) (ec := (v tS)) (PJ.args (PA.cons (PJ.sc ez_other) (PA.cons (PJ.sc ez_packages) PA.nil)) (fun h37 => rfl)) (J.args (ec := (v tI)) (AC.m (ea := (v tB)) (J.isE rfl) (fun a39 => (AC.nil (fun h38 => rfl))))) (fun a41 h40 => o_ix (sqL (t := tS)) ([z_other, z_packages] : List Str) a41 h40)) (fun _ => rfl) (fun _ _ => ⟨rfl, rfl⟩)))) (HJ.named (fun x => (SJ.one (SJ.ret (inj := fun a36 => (Jn.out a36)) (J.binPM (eb := (v tI)) (ec := (v tS)) (PJ.args (PA.cons (PJ.sc ez_other) (PA.cons (PJ.sc ez_project) PA.nil)) (fun h31 => rfl)) (J.args (ec := (v tI)) (AC.m (ea := (v tB)) (J.isE rfl) (fun a33 => (AC.nil (fun h32 => rfl))))) (fun a35 h34 => o_ix (sqL (t := tS)) ([z_other, z_project] : List Str) a35 h34)) (fun _ => rfl) (fun _ _ => ⟨rfl, rfl⟩)))) (HJ.named (fun x => (SJ.one (SJ.ret (inj := fun a30 => (Jn.out a30)) (J.binPM (eb := (v tI)) (ec := (v tS)) (PJ.args (PA.cons (PJ.sc ez_other) (PA.cons (PJ.sc ez_lock) PA.nil)) (fun h25 => rfl)) (J.args (ec := (v tI)) (AC.m (ea := (v tB)) (J.isE rfl) (fun a27 => (AC.nil (fun h26 => rfl))))) (fun a29 h28 => o_ix (sqL (t := tS)) ([z_other, z_lock] : List Str) a29 h28)) (fun _ => rfl) (fun _ _ => ⟨rfl, rfl⟩)))) HJ.nil)))) (fun _ ds hE => by obtain ⟨_, rfl⟩ := hE; exact (SJ.one (SJ.retP (PJ.sc ez_done) rfl (fun _ => rfl)))))
theorem hi_F_law_kind (a0 : Str) (a1 : D) : HI (F_law_kind a0 a1) := by
  unfold F_law_kind
  repeat' first | (with_reducible exact HI.pure _) | (with_reducible exact HI.raise _) | (with_reducible exact HI.bad) | (with_reducible exact HI.opt _) | (with_reducible exact HI.ixT _ _) | (with_reducible exact HI.lenT _) | (with_reducible exact HI.slS _ _ _) | (with_reducible exact HI.slD _ _ _) | (with_reducible exact HI.ltT _ _ _ _) | (with_reducible exact HI.leT _ _ _ _) | (with_reducible exact HI.gtT _ _ _ _) | (with_reducible exact HI.geT _ _ _ _) | (with_reducible exact HI.modT _ _) | (with_reducible exact HI.mulT _ _) | (with_reducible exact HI.catT _ _) | (with_reducible exact HI.catS _ _) | (with_reducible exact HI.pushT _ _) | (with_reducible exact HI.intT _) | (with_reducible exact HI.strT _) | (with_reducible exact HI.splitT _ _) | (with_reducible exact HI.joinT _ _) | (with_reducible exact HI.rngT _) | (with_reducible exact HI.rng2T _ _) | (with_reducible exact HI.isET _ _ _) | (with_reducible exact HI.addD _ _) | (with_reducible exact HI.ixD _ _) | (with_reducible exact HI.ixS _ _) | (with_reducible exact HI.lenD _) | (with_reducible exact HI.eqD _ _) | (with_reducible exact HI.neD _ _) | (with_reducible exact HI.inD _ _ _ _) | (with_reducible exact HI.countD _ _ _) | (with_reducible exact HI.sortT _ _) | (with_reducible exact HI.cast _ _) | (with_reducible exact HI.compP _ _ _) | (with_reducible exact HI.compM _ _) | (with_reducible exact hi_F_check_packages _) | (with_reducible exact hi_F_check_project _) | (with_reducible exact hi_F_check_lock _) | (with_reducible apply HI.bind) | (with_reducible apply HI.ite) | (with_reducible apply HI.onN) | (with_reducible apply HI.go) | (with_reducible apply HI.calm) | (with_reducible apply HI.compT) | (with_reducible apply HI.for0) | (with_reducible apply HI.for_) | (with_reducible apply HI.while0) | (with_reducible apply HI.while_) | (with_reducible apply HI.tryT) | (with_reducible apply HI.hdT) | (with_reducible apply HI.guard) | intro _ | split
def F_law (script1 : (List Int)) : T Bool := (T.bind (F_law_stream script1 (0 : Int) (12 : Int)) fun stream_here2 => (T.bind (F_law_packages stream_here2) fun packages_here3 => (T.bind (F_law_project stream_here2) fun project_here4 => (T.bind (F_law_some_lock stream_here2 packages_here3 project_here4) fun lock5 => (T.bind (T.bind (T.bind (cast (tU tD) (tPk.enc packages_here3)) fun a14 => (T.pure (z_packages, a14))) fun a22 => (T.bind (T.bind (cast (tU tD) (tDeps.enc project_here4)) fun a17 => (T.pure (z_project, a17))) fun a23 => (T.bind (T.bind (cast (tU tD) (tLk.enc lock5)) fun a20 => (T.pure (z_lock, a20))) fun a24 => (T.pure ([a22, a23, a24] : List (Str × (List D))))))) fun l369 => T.bind (forT (fun p35 => (fun (_ : Unit) => (T.bind (T.bind (T.bind (F_law_kind p35.1 ((tU tD).enc p35.2)) fun a37 => T.pure (!decide (a37 = z_done))) fun b => if b then T.pure true else (T.bind (T.bind (F_law_kind p35.1 ((tL tD).enc p35.2)) fun a40 => T.pure (!decide (a40 = p35.1))) fun b => if b then T.pure true else (T.bind (F_law_kind p35.1 (tN.enc ())) fun a42 => T.pure (!decide (a42 = p35.1))))) fun b => if b then (T.pure (Lp.out false)) else (T.pure (Lp.nx ()))))) l369 ()) (Jn.go (fun (_ : Unit) => (T.bind (T.pure packages_here3) fun l368 => T.bind (forT (fun manifest49 => (fun (_ : Unit) => (T.bind (T.bind (T.bind (T.bind (F_find_package packages_here3 manifest49.1 manifest49.2.1) fun a52 => T.pure ((tO tMan).enc a52)) fun a53 => (F_law_same a53 (tMan.enc manifest49))) fun b => T.pure (!b)) fun b => if b then (T.pure (Lp.out false)) else (T.pure (Lp.nx ()))))) l368 ()) (Jn.go (fun (_ : Unit) => (T.bind (T.bind (T.bind (F_find_package packages_here3 z_none z_1_0_0) fun a55 => T.pure (!(isNE (tO tMan) a55))) fun b => if b then T.pure true else (T.bind (F_find_package packages_here3 z_app z_9_9_9) fun a57 => T.pure (!(isNE (tO tMan) a57)))) fun b => if b then (T.pure false) else (T.bind (T.pure z_am2345678901) fun long58 => (T.bind (T.bind (T.bind (T.bind (T.bind (T.bind (T.bind (T.bind (T.bind (slS long58 none (some (11 : Int))) fun a65 => (T.pure (a65, z_star))) fun a68 => (T.pure a68)) fun a71 => (T.pure (long58, z_1_0_0, (z_abcdefghijkl, z_star), a71))) fun a74 => (T.pure a74)) fun a75 => T.pure ((tT (oneT (tT (consT tS (consT tS (consT (tT (oneT tDep)) (oneT (tT (oneT tDep))))))))).enc a75)) fun a76 => (F_law_kind z_packages a76)) fun a78 => T.pure (!decide (a78 = z_done))) fun b => if b then T.pure true else (T.bind (F_law_kind z_project ((tT (oneT tDep)).enc (long58, z_star))) fun a84 => T.pure (!decide (a84 = z_done)))) fun b => if b then (T.pure false) else (T.bind (T.pure ([(tS.enc z_empty), (tS.enc z_A), (tS.enc z_asb), (tS.enc z_1a), (tS.enc z_ma), (tS.enc z_abcdefghijklm), (tS.enc z_ax5fb), (tN.enc ()), (tI.enc (7 : Int)), (tS.enc z_a_b)] : (List D))) fun names86 => (T.bind (T.bind (T.bind (T.bind (T.bind (F_law_next stream_here2 (10 : Int)) fun a111 => (ixT names86 a111)) fun a114 => (T.pure (a114, z_star))) fun a115 => T.pure ((tT (consT tD (oneT tS))).enc a115)) fun a117 => (T.pure ([((tT (oneT tS)).enc z_a), (tEnt.enc (z_a, z_star, z_star)), ((tL tS).enc ([z_a, z_star] : List Str)), (tDep.enc (z_a, z_x)), ((tT (consT tS (oneT tN))).enc (z_a, ())), a117, (tS.enc z_astar), (tN.enc ())] : List D))) fun needs_here118 => (T.bind (T.bind (F_law_next stream_here2 (8 : Int)) fun a120 => (ixT needs_here118 a120)) fun need121 => (T.bind (T.bind (T.bind (rngT (7 : Int)) fun l127 => compT l127 (fun k122 => (T.pure true)) (fun k122 => (T.bind (ixS z_abcdefg k122) fun a126 => (T.pure (a126, z_star))))) fun a129 => (T.pure a129)) fun seven130 => (T.bind (T.pure ([((tT (oneT tD)).enc need121), (tDeps.enc seven130), ((tL tDep).enc ([(z_a, z_star)] : List (Str × Str))), (tN.enc ()), ((tT (consT tDep (oneT tDep))).enc ((z_a, z_star), (z_a, z_1_0_0)))] : List D)) fun parts154 => (T.bind (T.bind (F_law_next stream_here2 (5 : Int)) fun a156 => (ixT parts154 a156)) fun part157 => (T.bind (T.bind (F_law_next stream_here2 (10 : Int)) fun a159 => (ixT names86 a159)) fun name160 => (T.bind (T.pure ([((tT (consT tD (consT tS (consT (tT nilT) (oneT (tT nilT)))))).enc (name160, z_1_0_0, (), ())), ((tT (consT tS (consT tS (consT (tT nilT) (oneT (tT nilT)))))).enc (z_a1, z_1_0, (), ())), ((tT (consT tS (consT tS (consT tD (oneT (tT nilT)))))).enc (z_a1, z_1_0_0, part157, ())), ((tT (consT tS (consT tS (consT (tT nilT) (oneT tD))))).enc (z_a1, z_1_0_0, (), part157)), ((tT (consT tS (consT tS (oneT (tT nilT))))).enc (z_a1, z_1_0_0, ()))] : List D)) fun manifests210 => (T.bind (catT manifests210 ([((tT (consT tS (consT tS (consT (tT (oneT tDep)) (oneT (tT nilT)))))).enc (z_b, z_1_0_0, (z_b, z_star), ())), ((tT (consT tS (consT tS (consT (tT nilT) (oneT (tT (oneT tDep))))))).enc (z_b, z_1_0_0, (), (z_b, z_star))), ((tT (consT tS (consT tS (consT (tT (oneT tDep)) (oneT (tT (oneT tDep))))))).enc (z_b, z_1_0_0, (z_c, z_star), (z_c, z_u1_0_0)))] : (List D))) fun manifests239 => (T.bind (catT manifests239 ([((tL tD).enc ([(tS.enc z_b), (tS.enc z_1_0_0), ((tT nilT).enc ()), ((tT nilT).enc ())] : List D)), (tN.enc ()), ((tT (consT tS (consT tS (consT (tT nilT) (consT (tT nilT) (oneT (tT nilT))))))).enc (z_b, z_1_0_0, (), (), ()))] : (List D))) fun manifests259 => (T.bind (T.bind (T.bind (T.bind (T.bind (T.bind (T.bind (F_law_next stream_here2 (11 : Int)) fun a261 => (ixT manifests259 a261)) fun a264 => (T.pure a264)) fun a265 => T.pure ((tT (oneT tD)).enc a265)) fun a266 => (F_law_kind z_packages a266)) fun a268 => T.pure (!decide (a268 = z_packages))) fun b => if b then T.pure true else (T.bind (F_law_kind z_project part157) fun a270 => T.pure (!decide (a270 = z_project)))) fun b => if b then (T.pure false) else (T.bind (T.pure ((z_b, z_1_0_0, (), ()), (z_b, z_1_0_0, (z_c, z_star), ()))) fun twice287 => (T.bind (T.bind (T.bind (rngT (17 : Int)) fun l297 => compT l297 (fun k288 => (T.pure true)) (fun k288 => (T.bind (T.bind (strT k288) fun a291 => (catS z_1_0_ a291)) fun a296 => (T.pure (z_p, a296, (slT seven130 none (some (6 : Int))), ()))))) fun a299 => (T.pure a299)) fun many300 => (T.bind (T.bind (T.bind (F_law_kind z_packages ((tT (consT (tT (consT tS (consT tS (consT (tT nilT) (oneT (tT nilT)))))) (oneT (tT (consT tS (consT tS (consT (tT (oneT tDep)) (oneT (tT nilT))))))))).enc twice287)) fun a302 => T.pure (!decide (a302 = z_packages))) fun b => if b then T.pure true else (T.bind (T.bind (F_law_kind z_packages ((tU (tT (consT tS (consT tS (consT tDeps (oneT (tT nilT))))))).enc many300)) fun a304 => T.pure (!decide (a304 = z_packages))) fun b => if b then T.pure true else (T.bind (F_law_kind z_packages ((tU (tT (consT tS (consT tS (consT tDeps (oneT (tT nilT))))))).enc (slT many300 none (some (16 : Int))))) fun a306 => T.pure (!decide (a306 = z_done))))) fun b => if b then (T.pure false) else (T.bind (T.bind (T.bind (T.bind (T.opt (isiS "tuple" ((v tD) need121))) fun b => if b then (T.bind (lenD need121) fun a322 => T.pure (decide (a322 = (2 : Int)))) else T.pure false) fun b => if b then (addD need121 ((tT (oneT tS)).enc z_1_0_0)) else (T.pure (tDep.enc (z_a, z_star)))) fun a334 => (T.pure ([a334, (tEnt.enc (z_a, z_star, z_1_0)), (tEnt.enc (z_a, z_star, z_u1_0_0)), ((tL tS).enc ([z_a, z_star, z_1_0_0] : List Str))] : List D))) fun entries335 => (T.bind (T.bind (F_law_next stream_here2 (4 : Int)) fun a337 => (ixT entries335 a337)) fun entry338 => (T.bind (T.bind (T.bind (rngT (103 : Int)) fun l346 => compT l346 (fun k339 => (T.pure true)) (fun k339 => (T.bind (T.bind (strT k339) fun a342 => (catS z_1_0_ a342)) fun a345 => (T.pure (z_a, a345, z_1_0_0))))) fun a348 => (T.pure a348)) fun long349 => (T.bind (T.bind (T.bind (F_law_kind z_lock ((tT (oneT tD)).enc entry338)) fun a353 => T.pure (!decide (a353 = z_lock))) fun b => if b then T.pure true else (T.bind (T.bind (F_law_kind z_lock (tLk.enc long349)) fun a355 => T.pure (!decide (a355 = z_lock))) fun b => if b then T.pure true else (T.bind (F_law_kind z_lock (tLk.enc (slT long349 none (some (102 : Int))))) fun a357 => T.pure (!decide (a357 = z_done))))) fun b => if b then (T.pure false) else (T.bind (T.bind (F_law_kind z_lock ((tT (consT tEnt (oneT tEnt))).enc ((z_a, z_star, z_1_0_0), (z_a, z_star, z_2_0_0)))) fun a365 => T.pure (decide (a365 = z_lock))) fun b => if b then (T.bind (F_law_kind z_project (tDeps.enc (slT seven130 none (some (6 : Int))))) fun a367 => T.pure (decide (a367 = z_done))) else T.pure false))))))))))))))))))))))))))))))))
theorem ok_F_law (script1 : (List Int)) : ∀ h, SE (v tB) (run_law [SV.scr script1] h) (F_law script1 h) := by
  intro h
  refine run_se (m := 22) (fb := b_law) rfl ?_ h
  unfold b_law F_law l_law_2 l_law_1
  exact (SJ.set (J.args (ec := SV.ref) (AC.p (fun _ => rfl) (AC.p (fun _ => rfl) (AC.p (fun _ => rfl) (AC.nil (call_dyr rfl)))))) (fun _ => rfl) (fun stream_here2 => (SJ.nrm (ds' := [(some (SV.scr script1)), (some (SV.ref stream_here2)), none, none, none, none, none, none, none, none, none, none, none, none, none, none, none, none, none, none, none, none]) rfl (SJ.set (J.args (ec := (v tPk)) (AC.p (fun _ => rfl) (AC.nil (call_se rfl rfl (fun _ => rfl) (fun h => ok_F_law_packages stream_here2 h))))) (fun _ => rfl) (fun packages_here3 => (SJ.nrm (ds' := [(some (SV.scr script1)), (some (SV.ref stream_here2)), (some ((v tPk) packages_here3)), none, none, none, none, none, none, none, none, none, none, none, none, none, none, none, none, none, none, none]) rfl (SJ.set (J.args (ec := (v tDeps)) (AC.p (fun _ => rfl) (AC.nil (call_se rfl rfl (fun _ => rfl) (fun h => ok_F_law_project stream_here2 h))))) (fun _ => rfl) (fun project_here4 => (SJ.nrm (ds' := [(some (SV.scr script1)), (some (SV.ref stream_here2)), (some ((v tPk) packages_here3)), (some ((v tDeps) project_here4)), none, none, none, none, none, none, none, none, none, none, none, none, none, none, none, none, none, none]) rfl (SJ.set (J.args (ec := (v tLk)) (AC.p (fun _ => rfl) (AC.p (fun _ => rfl) (AC.p (fun _ => rfl) (AC.nil (call_se rfl rfl (fun _ => rfl) (fun h => ok_F_law_some_lock stream_here2 packages_here3 project_here4 h))))))) (fun _ => rfl) (fun lock5 => (SJ.nrm (ds' := [(some (SV.scr script1)), (some (SV.ref stream_here2)), (some ((v tPk) packages_here3)), (some ((v tDeps) project_here4)), (some ((v tLk) lock5)), none, none, none, none, none, none, none, none, none, none, none, none, none, none, none, none, none]) rfl (SJ.for_ (E := (fun (_ : Unit) (ds : DS) => ∃ j25 j26 : Option SV, okJ j25 ∧ okJ j26 ∧ ds = [(some (SV.scr script1)), (some (SV.ref stream_here2)), (some ((v tPk) packages_here3)), (some ((v tDeps) project_here4)), (some ((v tLk) lock5)), j25, j26, none, none, none, none, none, none, none, none, none, none, none, none, none, none, none])) (J.seq (fxL (t := (tT (consT tS (oneT (tU tD)))))) (J.args (ec := (v (tL (tT (consT tS (oneT (tU tD))))))) (AC.m (ea := (v (tT (consT tS (oneT (tU tD)))))) (J.args (ec := (v (tT (consT tS (oneT (tU tD)))))) (AC.p (PJ.sc ez_packages) (AC.m (ea := (v (tU tD))) (J.castP (t := (tU tD)) (fun _ => rfl)) (fun a14 => (AC.nil (fun h13 => rfl)))))) (fun a22 => (AC.m (ea := (v (tT (consT tS (oneT (tU tD)))))) (J.args (ec := (v (tT (consT tS (oneT (tU tD)))))) (AC.p (PJ.sc ez_project) (AC.m (ea := (v (tU tD))) (J.castP (t := (tU tD)) (fun _ => rfl)) (fun a17 => (AC.nil (fun h16 => rfl)))))) (fun a23 => (AC.m (ea := (v (tT (consT tS (oneT (tU tD)))))) (J.args (ec := (v (tT (consT tS (oneT (tU tD)))))) (AC.p (PJ.sc ez_lock) (AC.m (ea := (v (tU tD))) (J.castP (t := (tU tD)) (fun _ => rfl)) (fun a20 => (AC.nil (fun h19 => rfl)))))) (fun a24 => (AC.nil (fun h21 => rfl)))))))))) ⟨none, none, trivial, trivial, rfl⟩ (fun p35 => (fun _ ds hE => by obtain ⟨j25, j26, hj25, hj26, rfl⟩ := hE; exact ⟨_, rfl, (SJ.one (SJ.ifM (J.tOr (J.tOf (J.binMP (ea := (v tS)) (ec := (v tB)) (J.args (ec := (v tS)) (AC.p (fun _ => rfl) (AC.p (fun _ => rfl) (AC.nil (call_se rfl rfl (fun _ => rfl) (fun h => ok_F_law_kind p35.1 ((tU tD).enc p35.2) h)))))) (PJ.sc ez_done) (fun a37 h36 => o_nes a37 z_done h36))) (J.tOr (J.tOf (J.binMP (ea := (v tS)) (ec := (v tB)) (J.args (ec := (v tS)) (AC.p (fun _ => rfl) (AC.p (PJ.args (PA.cons (fun _ => rfl) PA.nil) (fun h38 => o_list (sqU (t := tD)) p35.2 h38)) (AC.nil (call_se rfl rfl (fun _ => rfl) (fun h => ok_F_law_kind p35.1 ((tL tD).enc p35.2) h)))))) (fun _ => rfl) (fun a40 h39 => o_nes a40 p35.1 h39))) (J.tOf (J.binMP (ea := (v tS)) (ec := (v tB)) (J.args (ec := (v tS)) (AC.p (fun _ => rfl) (AC.p (fun _ => rfl) (AC.nil (call_se rfl rfl (fun _ => rfl) (fun h => ok_F_law_kind p35.1 (tN.enc ()) h)))))) (fun _ => rfl) (fun a42 h41 => o_nes a42 p35.1 h41))))) (SJ.retP (fun _ => rfl) rfl (fun _ => ⟨_, rfl, rfl⟩)) (SJ.nil (SJ.end_ (fun _ => ⟨_, ⟨(some ((v tS) p35.1)), (some ((v (tU tD)) p35.2)), trivial, trivial, rfl⟩, Or.inl rfl⟩)))))⟩)) (fun _ ds hE => by obtain ⟨j25, j26, hj25, hj26, rfl⟩ := hE; exact (SJ.for_ (E := (fun (_ : Unit) (ds : DS) => ∃ j43 : Option SV, okJ j43 ∧ ds = [(some (SV.scr script1)), (some (SV.ref stream_here2)), (some ((v tPk) packages_here3)), (some ((v tDeps) project_here4)), (some ((v tLk) lock5)), j25, j26, j43, none, none, none, none, none, none, none, none, none, none, none, none, none, none])) (PJ.j (e := it tMan) (PJ.seq (fxU (t := tMan)) (fun _ => rfl))) ⟨none, trivial, rfl⟩ (fun manifest49 => (fun _ ds hE => by obtain ⟨j43, hj43, rfl⟩ := hE; exact ⟨_, rfl, (SJ.one (SJ.ifM (J.tNot (J.tTruB (J.args (ec := (v tB)) (AC.m (ea := (v tD)) (J.map (e := (v (tO tMan))) (e' := (v tD)) (g := fun a52 => ((tO tMan).enc a52)) (J.args (ec := (v (tO tMan))) (AC.p (fun _ => rfl) (AC.p (PJ.bin (fun _ => rfl) (fun _ => rfl) (fun h50 => rfl)) (AC.p (PJ.bin (fun _ => rfl) (fun _ => rfl) (fun h51 => rfl)) (AC.nil (call_se rfl rfl (fun _ => rfl) (fun h => ok_F_find_package packages_here3 manifest49.1 manifest49.2.1 h))))))) (fun _ => rfl)) (fun a53 => (AC.p (fun _ => rfl) (AC.nil (call_dy rfl)))))))) (SJ.retP (fun _ => rfl) rfl (fun _ => ⟨_, rfl, rfl⟩)) (SJ.nil (SJ.end_ (fun _ => ⟨_, ⟨(some ((v tMan) manifest49)), trivial, rfl⟩, Or.inl rfl⟩)))))⟩)) (fun _ ds hE => by obtain ⟨j43, hj43, rfl⟩ := hE; exact (SJ.ifM (J.tOr (J.tOf (J.binMP (ea := (v (tO tMan))) (ec := (v tB)) (J.args (ec := (v (tO tMan))) (AC.p (fun _ => rfl) (AC.p (PJ.sc ez_none) (AC.p (PJ.sc ez_1_0_0) (AC.nil (call_se rfl rfl (fun _ => rfl) (fun h => ok_F_find_package packages_here3 z_none z_1_0_0 h))))))) (fun _ => rfl) (fun a55 h54 => o_isT (t := (tO tMan)) a55 h54))) (J.tOf (J.binMP (ea := (v (tO tMan))) (ec := (v tB)) (J.args (ec := (v (tO tMan))) (AC.p (fun _ => rfl) (AC.p (PJ.sc ez_app) (AC.p (PJ.sc ez_9_9_9) (AC.nil (call_se rfl rfl (fun _ => rfl) (fun h => ok_F_find_package packages_here3 z_app z_9_9_9 h))))))) (fun _ => rfl) (fun a57 h56 => o_isT (t := (tO tMan)) a57 h56)))) (SJ.retP (fun _ => rfl) rfl (fun _ => rfl)) (SJ.nil (SJ.set (PJ.j (e := (v tS)) (PJ.sc ez_am2345678901)) (fun _ => rfl) (fun long58 => (SJ.nrm (ds' := [(some (SV.scr script1)), (some (SV.ref stream_here2)), (some ((v tPk) packages_here3)), (some ((v tDeps) project_here4)), (some ((v tLk) lock5)), j25, j26, j43, (some ((v tS) long58)), none, none, none, none, none, none, none, none, none, none, none, none, none]) rfl (SJ.ifM (J.tOr (J.tOf (J.binMP (ea := (v tS)) (ec := (v tB)) (J.args (ec := (v tS)) (AC.p (PJ.sc ez_packages) (AC.m (ea := (v tD)) (J.map (e := (v (tT (oneT (tT (consT tS (consT tS (consT (tT (oneT tDep)) (oneT (tT (oneT tDep))))))))))) (e' := (v tD)) (g := fun a75 => ((tT (oneT (tT (consT tS (consT tS (consT (tT (oneT tDep)) (oneT (tT (oneT tDep))))))))).enc a75)) (J.args (ec := (v (tT (oneT (tT (consT tS (consT tS (consT (tT (oneT tDep)) (oneT (tT (oneT tDep))))))))))) (AC.m (ea := (v (tT (consT tS (consT tS (consT (tT (oneT tDep)) (oneT (tT (oneT tDep))))))))) (J.args (ec := (v (tT (consT tS (consT tS (consT (tT (oneT tDep)) (oneT (tT (oneT tDep))))))))) (AC.p (fun _ => rfl) (AC.p (PJ.sc ez_1_0_0) (AC.p (PJ.args (PA.cons (PJ.args (PA.cons (PJ.sc ez_abcdefghijkl) (PA.cons (PJ.sc ez_star) PA.nil)) (fun h60 => rfl)) PA.nil) (fun h62 => rfl)) (AC.m (ea := (v (tT (oneT tDep)))) (J.args (ec := (v (tT (oneT tDep)))) (AC.m (ea := (v tDep)) (J.args (ec := (v tDep)) (AC.m (ea := (v tS)) (J.slP (fun _ => rfl) po_n (po_s (fun _ => rfl)) (fun h => o_slS _ _ _ h)) (fun a65 => (AC.p (PJ.sc ez_star) (AC.nil (fun h64 => rfl)))))) (fun a68 => (AC.nil (fun h67 => rfl))))) (fun a71 => (AC.nil (fun h70 => rfl)))))))) (fun a74 => (AC.nil (fun h73 => rfl))))) (fun _ => rfl)) (fun a76 => (AC.nil (call_se rfl rfl (fun _ => rfl) (fun h => ok_F_law_kind z_packages a76 h))))))) (PJ.sc ez_done) (fun a78 h77 => o_nes a78 z_done h77))) (J.tOf (J.binMP (ea := (v tS)) (ec := (v tB)) (J.args (ec := (v tS)) (AC.p (PJ.sc ez_project) (AC.p (PJ.args (PA.cons (PJ.args (PA.cons (fun _ => rfl) (PA.cons (PJ.sc ez_star) PA.nil)) (fun h80 => rfl)) PA.nil) (fun h82 => rfl)) (AC.nil (call_se rfl rfl (fun _ => rfl) (fun h => ok_F_law_kind z_project ((tT (oneT tDep)).enc (long58, z_star)) h)))))) (PJ.sc ez_done) (fun a84 h83 => o_nes a84 z_done h83)))) (SJ.retP (fun _ => rfl) rfl (fun _ => rfl)) (SJ.nil (SJ.set (PJ.j (e := (v (tL tD))) (PJ.args (PA.cons (PJ.sc ez_empty) (PA.cons (PJ.sc ez_A) (PA.cons (PJ.sc ez_asb) (PA.cons (PJ.sc ez_1a) (PA.cons (PJ.sc ez_ma) (PA.cons (PJ.sc ez_abcdefghijklm) (PA.cons (PJ.sc ez_ax5fb) (PA.cons (fun _ => rfl) (PA.cons (fun _ => rfl) (PA.cons (PJ.sc ez_a_b) PA.nil)))))))))) (fun h85 => rfl))) (fun _ => rfl) (fun names86 => (SJ.nrm (ds' := [(some (SV.scr script1)), (some (SV.ref stream_here2)), (some ((v tPk) packages_here3)), (some ((v tDeps) project_here4)), (some ((v tLk) lock5)), j25, j26, j43, (some ((v tS) long58)), (some ((v (tL tD)) names86)), none, none, none, none, none, none, none, none, none, none, none, none]) rfl (SJ.set (J.args (ec := (v (tL tD))) (AC.p (PJ.args (PA.cons (PJ.sc ez_a) PA.nil) (fun h102 => rfl)) (AC.p (PJ.args (PA.cons (PJ.sc ez_a) (PA.cons (PJ.sc ez_star) (PA.cons (PJ.sc ez_star) PA.nil))) (fun h104 => rfl)) (AC.p (PJ.args (PA.cons (PJ.sc ez_a) (PA.cons (PJ.sc ez_star) PA.nil)) (fun h105 => rfl)) (AC.p (PJ.args (PA.cons (PJ.sc ez_a) (PA.cons (PJ.sc ez_x) PA.nil)) (fun h107 => rfl)) (AC.p (PJ.args (PA.cons (PJ.sc ez_a) (PA.cons (fun _ => rfl) PA.nil)) (fun h109 => rfl)) (AC.m (ea := (v tD)) (J.map (e := (v (tT (consT tD (oneT tS))))) (e' := (v tD)) (g := fun a115 => ((tT (consT tD (oneT tS))).enc a115)) (J.args (ec := (v (tT (consT tD (oneT tS))))) (AC.m (ea := (v tD)) (J.binPM (eb := (v tI)) (ec := (v tD)) (fun _ => rfl) (J.args (ec := (v tI)) (AC.p (fun _ => rfl) (AC.p (fun _ => rfl) (AC.nil (call_dy rfl))))) (fun a111 h110 => o_ix (sqL (t := tD)) names86 a111 h110)) (fun a114 => (AC.p (PJ.sc ez_star) (AC.nil (fun h113 => rfl)))))) (fun _ => rfl)) (fun a117 => (AC.p (PJ.sc ez_astar) (AC.p (fun _ => rfl) (AC.nil (fun h116 => rfl)))))))))))) (fun _ => rfl) (fun needs_here118 => (SJ.nrm (ds' := [(some (SV.scr script1)), (some (SV.ref stream_here2)), (some ((v tPk) packages_here3)), (some ((v tDeps) project_here4)), (some ((v tLk) lock5)), j25, j26, j43, (some ((v tS) long58)), (some ((v (tL tD)) names86)), (some ((v (tL tD)) needs_here118)), none, none, none, none, none, none, none, none, none, none, none]) rfl (SJ.set (J.binPM (eb := (v tI)) (ec := (v tD)) (fun _ => rfl) (J.args (ec := (v tI)) (AC.p (fun _ => rfl) (AC.p (fun _ => rfl) (AC.nil (call_dy rfl))))) (fun a120 h119 => o_ix (sqL (t := tD)) needs_here118 a120 h119)) (fun _ => rfl) (fun need121 => (SJ.nrm (ds' := [(some (SV.scr script1)), (some (SV.ref stream_here2)), (some ((v tPk) packages_here3)), (some ((v tDeps) project_here4)), (some ((v tLk) lock5)), j25, j26, j43, (some ((v tS) long58)), (some ((v (tL tD)) names86)), (some ((v (tL tD)) needs_here118)), (some ((v tD) need121)), none, none, none, none, none, none, none, none, none, none]) rfl (SJ.set (J.args (ec := (v tDeps)) (AC.m (ea := (v (tL tDep))) (J.fz (J.comp (u := tDep) (J.rng (fun _ => rfl)) (fun k122 => ⟨_, rfl, (PJ.j (e := idB) pj_yes), (J.args (ec := (v tDep)) (AC.m (ea := (v tS)) (J.binPP (ec := (v tS)) (PJ.sc ez_abcdefg) (fun _ => rfl) (fun h123 => o_ixS z_abcdefg k122 h123)) (fun a126 => (AC.p (PJ.sc ez_star) (AC.nil (fun h125 => rfl))))))⟩))) (fun a129 => (AC.nil (fun h128 => o_tuple (sqL (t := tDep)) a129 h128))))) (fun _ => rfl) (fun seven130 => (SJ.nrm (ds' := [(some (SV.scr script1)), (some (SV.ref stream_here2)), (some ((v tPk) packages_here3)), (some ((v tDeps) project_here4)), (some ((v tLk) lock5)), j25, j26, j43, (some ((v tS) long58)), (some ((v (tL tD)) names86)), (some ((v (tL tD)) needs_here118)), (some ((v tD) need121)), (some ((v tDeps) seven130)), none, none, none, none, none, none, none, none, none]) rfl (SJ.set (PJ.j (e := (v (tL tD))) (PJ.args (PA.cons (PJ.args (PA.cons (fun _ => rfl) PA.nil) (fun h143 => rfl)) (PA.cons (fun _ => rfl) (PA.cons (PJ.args (PA.cons (PJ.args (PA.cons (PJ.sc ez_a) (PA.cons (PJ.sc ez_star) PA.nil)) (fun h145 => rfl)) PA.nil) (fun h146 => rfl)) (PA.cons (fun _ => rfl) (PA.cons (PJ.args (PA.cons (PJ.args (PA.cons (PJ.sc ez_a) (PA.cons (PJ.sc ez_star) PA.nil)) (fun h148 => rfl)) (PA.cons (PJ.args (PA.cons (PJ.sc ez_a) (PA.cons (PJ.sc ez_1_0_0) PA.nil)) (fun h150 => rfl)) PA.nil)) (fun h152 => rfl)) PA.nil))))) (fun h153 => rfl))) (fun _ => rfl) (fun parts154 => (SJ.nrm (ds' := [(some (SV.scr script1)), (some (SV.ref stream_here2)), (some ((v tPk) packages_here3)), (some ((v tDeps) project_here4)), (some ((v tLk) lock5)), j25, j26, j43, (some ((v tS) long58)), (some ((v (tL tD)) names86)), (some ((v (tL tD)) needs_here118)), (some ((v tD) need121)), (some ((v tDeps) seven130)), (some ((v (tL tD)) parts154)), none, none, none, none, none, none, none, none]) rfl (SJ.set (J.binPM (eb := (v tI)) (ec := (v tD)) (fun _ => rfl) (J.args (ec := (v tI)) (AC.p (fun _ => rfl) (AC.p (fun _ => rfl) (AC.nil (call_dy rfl))))) (fun a156 h155 => o_ix (sqL (t := tD)) parts154 a156 h155)) (fun _ => rfl) (fun part157 => (SJ.nrm (ds' := [(some (SV.scr script1)), (some (SV.ref stream_here2)), (some ((v tPk) packages_here3)), (some ((v tDeps) project_here4)), (some ((v tLk) lock5)), j25, j26, j43, (some ((v tS) long58)), (some ((v (tL tD)) names86)), (some ((v (tL tD)) needs_here118)), (some ((v tD) need121)), (some ((v tDeps) seven130)), (some ((v (tL tD)) parts154)), (some ((v tD) part157)), none, none, none, none, none, none, none]) rfl (SJ.set (J.binPM (eb := (v tI)) (ec := (v tD)) (fun _ => rfl) (J.args (ec := (v tI)) (AC.p (fun _ => rfl) (AC.p (fun _ => rfl) (AC.nil (call_dy rfl))))) (fun a159 h158 => o_ix (sqL (t := tD)) names86 a159 h158)) (fun _ => rfl) (fun name160 => (SJ.nrm (ds' := [(some (SV.scr script1)), (some (SV.ref stream_here2)), (some ((v tPk) packages_here3)), (some ((v tDeps) project_here4)), (some ((v tLk) lock5)), j25, j26, j43, (some ((v tS) long58)), (some ((v (tL tD)) names86)), (some ((v (tL tD)) needs_here118)), (some ((v tD) need121)), (some ((v tDeps) seven130)), (some ((v (tL tD)) parts154)), (some ((v tD) part157)), (some ((v tD) name160)), none, none, none, none, none, none]) rfl (SJ.set (PJ.j (e := (v (tL tD))) (PJ.args (PA.cons (PJ.args (PA.cons (fun _ => rfl) (PA.cons (PJ.sc ez_1_0_0) (PA.cons (PJ.args PA.nil (fun h186 => rfl)) (PA.cons (PJ.args PA.nil (fun h188 => rfl)) PA.nil)))) (fun h190 => rfl)) (PA.cons (PJ.args (PA.cons (PJ.sc ez_a1) (PA.cons (PJ.sc ez_1_0) (PA.cons (PJ.args PA.nil (fun h192 => rfl)) (PA.cons (PJ.args PA.nil (fun h194 => rfl)) PA.nil)))) (fun h196 => rfl)) (PA.cons (PJ.args (PA.cons (PJ.sc ez_a1) (PA.cons (PJ.sc ez_1_0_0) (PA.cons (fun _ => rfl) (PA.cons (PJ.args PA.nil (fun h198 => rfl)) PA.nil)))) (fun h200 => rfl)) (PA.cons (PJ.args (PA.cons (PJ.sc ez_a1) (PA.cons (PJ.sc ez_1_0_0) (PA.cons (PJ.args PA.nil (fun h202 => rfl)) (PA.cons (fun _ => rfl) PA.nil)))) (fun h204 => rfl)) (PA.cons (PJ.args (PA.cons (PJ.sc ez_a1) (PA.cons (PJ.sc ez_1_0_0) (PA.cons (PJ.args PA.nil (fun h206 => rfl)) PA.nil))) (fun h208 => rfl)) PA.nil))))) (fun h209 => rfl))) (fun _ => rfl) (fun manifests210 => (SJ.nrm (ds' := [(some (SV.scr script1)), (some (SV.ref stream_here2)), (some ((v tPk) packages_here3)), (some ((v tDeps) project_here4)), (some ((v tLk) lock5)), j25, j26, j43, (some ((v tS) long58)), (some ((v (tL tD)) names86)), (some ((v (tL tD)) needs_here118)), (some ((v tD) need121)), (some ((v tDeps) seven130)), (some ((v (tL tD)) parts154)), (some ((v tD) part157)), (some ((v tD) name160)), (some ((v (tL tD)) manifests210)), none, none, none, none, none]) rfl (SJ.set (J.binPP (ec := (v (tL tD))) (fun _ => rfl) (PJ.args (PA.cons (PJ.args (PA.cons (PJ.sc ez_b) (PA.cons (PJ.sc ez_1_0_0) (PA.cons (PJ.args (PA.cons (PJ.args (PA.cons (PJ.sc ez_b) (PA.cons (PJ.sc ez_star) PA.nil)) (fun h212 => rfl)) PA.nil) (fun h214 => rfl)) (PA.cons (PJ.args PA.nil (fun h216 => rfl)) PA.nil)))) (fun h218 => rfl)) (PA.cons (PJ.args (PA.cons (PJ.sc ez_b) (PA.cons (PJ.sc ez_1_0_0) (PA.cons (PJ.args PA.nil (fun h220 => rfl)) (PA.cons (PJ.args (PA.cons (PJ.args (PA.cons (PJ.sc ez_b) (PA.cons (PJ.sc ez_star) PA.nil)) (fun h222 => rfl)) PA.nil) (fun h224 => rfl)) PA.nil)))) (fun h226 => rfl)) (PA.cons (PJ.args (PA.cons (PJ.sc ez_b) (PA.cons (PJ.sc ez_1_0_0) (PA.cons (PJ.args (PA.cons (PJ.args (PA.cons (PJ.sc ez_c) (PA.cons (PJ.sc ez_star) PA.nil)) (fun h228 => rfl)) PA.nil) (fun h230 => rfl)) (PA.cons (PJ.args (PA.cons (PJ.args (PA.cons (PJ.sc ez_c) (PA.cons (PJ.sc ez_u1_0_0) PA.nil)) (fun h232 => rfl)) PA.nil) (fun h234 => rfl)) PA.nil)))) (fun h236 => rfl)) PA.nil))) (fun h237 => rfl)) (fun h238 => o_catL (t := tD) manifests210 ([((tT (consT tS (consT tS (consT (tT (oneT tDep)) (oneT (tT nilT)))))).enc (z_b, z_1_0_0, (z_b, z_star), ())), ((tT (consT tS (consT tS (consT (tT nilT) (oneT (tT (oneT tDep))))))).enc (z_b, z_1_0_0, (), (z_b, z_star))), ((tT (consT tS (consT tS (consT (tT (oneT tDep)) (oneT (tT (oneT tDep))))))).enc (z_b, z_1_0_0, (z_c, z_star), (z_c, z_u1_0_0)))] : (List D)) h238)) (fun _ => rfl) (fun manifests239 => (SJ.nrm (ds' := [(some (SV.scr script1)), (some (SV.ref stream_here2)), (some ((v tPk) packages_here3)), (some ((v tDeps) project_here4)), (some ((v tLk) lock5)), j25, j26, j43, (some ((v tS) long58)), (some ((v (tL tD)) names86)), (some ((v (tL tD)) needs_here118)), (some ((v tD) need121)), (some ((v tDeps) seven130)), (some ((v (tL tD)) parts154)), (some ((v tD) part157)), (some ((v tD) name160)), (some ((v (tL tD)) manifests239)), none, none, none, none, none]) rfl (SJ.set (J.binPP (ec := (v (tL tD))) (fun _ => rfl) (PJ.args (PA.cons (PJ.args (PA.cons (PJ.sc ez_b) (PA.cons (PJ.sc ez_1_0_0) (PA.cons (PJ.args PA.nil (fun h245 => rfl)) (PA.cons (PJ.args PA.nil (fun h247 => rfl)) PA.nil)))) (fun h248 => rfl)) (PA.cons (fun _ => rfl) (PA.cons (PJ.args (PA.cons (PJ.sc ez_b) (PA.cons (PJ.sc ez_1_0_0) (PA.cons (PJ.args PA.nil (fun h250 => rfl)) (PA.cons (PJ.args PA.nil (fun h252 => rfl)) (PA.cons (PJ.args PA.nil (fun h254 => rfl)) PA.nil))))) (fun h256 => rfl)) PA.nil))) (fun h257 => rfl)) (fun h258 => o_catL (t := tD) manifests239 ([((tL tD).enc ([(tS.enc z_b), (tS.enc z_1_0_0), ((tT nilT).enc ()), ((tT nilT).enc ())] : List D)), (tN.enc ()), ((tT (consT tS (consT tS (consT (tT nilT) (consT (tT nilT) (oneT (tT nilT))))))).enc (z_b, z_1_0_0, (), (), ()))] : (List D)) h258)) (fun _ => rfl) (fun manifests259 => (SJ.nrm (ds' := [(some (SV.scr script1)), (some (SV.ref stream_here2)), (some ((v tPk) packages_here3)), (some ((v tDeps) project_here4)), (some ((v tLk) lock5)), j25, j26, j43, (some ((v tS) long58)), (some ((v (tL tD)) names86)), (some ((v (tL tD)) needs_here118)), (some ((v tD) need121)), (some ((v tDeps) seven130)), (some ((v (tL tD)) parts154)), (some ((v tD) part157)), (some ((v tD) name160)), (some ((v (tL tD)) manifests259)), none, none, none, none, none]) rfl (SJ.ifM (J.tOr (J.tOf (J.binMP (ea := (v tS)) (ec := (v tB)) (J.args (ec := (v tS)) (AC.p (PJ.sc ez_packages) (AC.m (ea := (v tD)) (J.map (e := (v (tT (oneT tD)))) (e' := (v tD)) (g := fun a265 => ((tT (oneT tD)).enc a265)) (J.args (ec := (v (tT (oneT tD)))) (AC.m (ea := (v tD)) (J.binPM (eb := (v tI)) (ec := (v tD)) (fun _ => rfl) (J.args (ec := (v tI)) (AC.p (fun _ => rfl) (AC.p (fun _ => rfl) (AC.nil (call_dy rfl))))) (fun a261 h260 => o_ix (sqL (t := tD)) manifests259 a261 h260)) (fun a264 => (AC.nil (fun h263 => rfl))))) (fun _ => rfl)) (fun a266 => (AC.nil (call_se rfl rfl (fun _ => rfl) (fun h => ok_F_law_kind z_packages a266 h))))))) (PJ.sc ez_packages) (fun a268 h267 => o_nes a268 z_packages h267))) (J.tOf (J.binMP (ea := (v tS)) (ec := (v tB)) (J.args (ec := (v tS)) (AC.p (PJ.sc ez_project) (AC.p (fun _ => rfl) (AC.nil (call_se rfl rfl (fun _ => rfl) (fun h => ok_F_law_kind z_project part157 h)))))) (PJ.sc ez_project) (fun a270 h269 => o_nes a270 z_project h269)))) (SJ.retP (fun _ => rfl) rfl (fun _ => rfl)) (SJ.nil (SJ.set (PJ.j (e := (v (tT (consT (tT (consT tS (consT tS (consT (tT nilT) (oneT (tT nilT)))))) (oneT (tT (consT tS (consT tS (consT (tT (oneT tDep)) (oneT (tT nilT))))))))))) (PJ.args (PA.cons (PJ.args (PA.cons (PJ.sc ez_b) (PA.cons (PJ.sc ez_1_0_0) (PA.cons (PJ.args PA.nil (fun h272 => rfl)) (PA.cons (PJ.args PA.nil (fun h274 => rfl)) PA.nil)))) (fun h276 => rfl)) (PA.cons (PJ.args (PA.cons (PJ.sc ez_b) (PA.cons (PJ.sc ez_1_0_0) (PA.cons (PJ.args (PA.cons (PJ.args (PA.cons (PJ.sc ez_c) (PA.cons (PJ.sc ez_star) PA.nil)) (fun h278 => rfl)) PA.nil) (fun h280 => rfl)) (PA.cons (PJ.args PA.nil (fun h282 => rfl)) PA.nil)))) (fun h284 => rfl)) PA.nil)) (fun h286 => rfl))) (fun _ => rfl) (fun twice287 => (SJ.nrm (ds' := [(some (SV.scr script1)), (some (SV.ref stream_here2)), (some ((v tPk) packages_here3)), (some ((v tDeps) project_here4)), (some ((v tLk) lock5)), j25, j26, j43, (some ((v tS) long58)), (some ((v (tL tD)) names86)), (some ((v (tL tD)) needs_here118)), (some ((v tD) need121)), (some ((v tDeps) seven130)), (some ((v (tL tD)) parts154)), (some ((v tD) part157)), (some ((v tD) name160)), (some ((v (tL tD)) manifests259)), (some ((v (tT (consT (tT (consT tS (consT tS (consT (tT nilT) (oneT (tT nilT)))))) (oneT (tT (consT tS (consT tS (consT (tT (oneT tDep)) (oneT (tT nilT)))))))))) twice287)), none, none, none, none]) rfl (SJ.set (J.args (ec := (v (tU (tT (consT tS (consT tS (consT tDeps (oneT (tT nilT))))))))) (AC.m (ea := (v (tL (tT (consT tS (consT tS (consT tDeps (oneT (tT nilT))))))))) (J.fz (J.comp (u := (tT (consT tS (consT tS (consT tDeps (oneT (tT nilT))))))) (J.rng (fun _ => rfl)) (fun k288 => ⟨_, rfl, (PJ.j (e := idB) pj_yes), (J.args (ec := (v (tT (consT tS (consT tS (consT tDeps (oneT (tT nilT)))))))) (AC.p (PJ.sc ez_p) (AC.m (ea := (v tS)) (J.binPM (eb := (v tS)) (ec := (v tS)) (PJ.sc ez_1_0_) (J.args (ec := (v tS)) (AC.p (fun _ => rfl) (AC.nil (fun h289 => o_str k288 h289)))) (fun a291 h290 => o_catS z_1_0_ a291 h290)) (fun a296 => (AC.p (PJ.sl (fun _ => rfl) po_n (po_s (fun _ => rfl)) (fun h => o_slU (t := tDep) _ _ _ h)) (AC.p (PJ.args PA.nil (fun h293 => rfl)) (AC.nil (fun h295 => rfl))))))))⟩))) (fun a299 => (AC.nil (fun h298 => o_tuple (sqL (t := (tT (consT tS (consT tS (consT tDeps (oneT (tT nilT)))))))) a299 h298))))) (fun _ => rfl) (fun many300 => (SJ.nrm (ds' := [(some (SV.scr script1)), (some (SV.ref stream_here2)), (some ((v tPk) packages_here3)), (some ((v tDeps) project_here4)), (some ((v tLk) lock5)), j25, j26, j43, (some ((v tS) long58)), (some ((v (tL tD)) names86)), (some ((v (tL tD)) needs_here118)), (some ((v tD) need121)), (some ((v tDeps) seven130)), (some ((v (tL tD)) parts154)), (some ((v tD) part157)), (some ((v tD) name160)), (some ((v (tL tD)) manifests259)), (some ((v (tT (consT (tT (consT tS (consT tS (consT (tT nilT) (oneT (tT nilT)))))) (oneT (tT (consT tS (consT tS (consT (tT (oneT tDep)) (oneT (tT nilT)))))))))) twice287)), (some ((v (tU (tT (consT tS (consT tS (consT tDeps (oneT (tT nilT)))))))) many300)), none, none, none]) rfl (SJ.ifM (J.tOr (J.tOf (J.binMP (ea := (v tS)) (ec := (v tB)) (J.args (ec := (v tS)) (AC.p (PJ.sc ez_packages) (AC.p (fun _ => rfl) (AC.nil (call_se rfl rfl (fun _ => rfl) (fun h => ok_F_law_kind z_packages ((tT (consT (tT (consT tS (consT tS (consT (tT nilT) (oneT (tT nilT)))))) (oneT (tT (consT tS (consT tS (consT (tT (oneT tDep)) (oneT (tT nilT))))))))).enc twice287) h)))))) (PJ.sc ez_packages) (fun a302 h301 => o_nes a302 z_packages h301))) (J.tOr (J.tOf (J.binMP (ea := (v tS)) (ec := (v tB)) (J.args (ec := (v tS)) (AC.p (PJ.sc ez_packages) (AC.p (fun _ => rfl) (AC.nil (call_se rfl rfl (fun _ => rfl) (fun h => ok_F_law_kind z_packages ((tU (tT (consT tS (consT tS (consT tDeps (oneT (tT nilT))))))).enc many300) h)))))) (PJ.sc ez_packages) (fun a304 h303 => o_nes a304 z_packages h303))) (J.tOf (J.binMP (ea := (v tS)) (ec := (v tB)) (J.args (ec := (v tS)) (AC.p (PJ.sc ez_packages) (AC.p (PJ.sl (fun _ => rfl) po_n (po_s (fun _ => rfl)) (fun h => o_slU (t := (tT (consT tS (consT tS (consT tDeps (oneT (tT nilT))))))) _ _ _ h)) (AC.nil (call_se rfl rfl (fun _ => rfl) (fun h => ok_F_law_kind z_packages ((tU (tT (consT tS (consT tS (consT tDeps (oneT (tT nilT))))))).enc (slT many300 none (some (16 : Int)))) h)))))) (PJ.sc ez_done) (fun a306 h305 => o_nes a306 z_done h305))))) (SJ.retP (fun _ => rfl) rfl (fun _ => rfl)) (SJ.nil (SJ.set (J.args (ec := (v (tL tD))) (AC.m (ea := (v tD)) (J.ife (J.tAnd (J.tTruB (J.isiP (fun _ => rfl))) (J.tOf (J.binMP (ea := (v tI)) (ec := (v tB)) (J.args (ec := (v tI)) (AC.p (fun _ => rfl) (AC.nil (fun h320 => dy_se tI _)))) (fun _ => rfl) (fun a322 h321 => o_eqi a322 (2 : Int) h321)))) (J.binPP (ec := (v tD)) (fun _ => rfl) (PJ.args (PA.cons (PJ.sc ez_1_0_0) PA.nil) (fun h324 => rfl)) (fun h325 => dy_se tD _)) (PJ.j (e := (v tD)) (PJ.args (PA.cons (PJ.sc ez_a) (PA.cons (PJ.sc ez_star) PA.nil)) (fun h327 => rfl)))) (fun a334 => (AC.p (PJ.args (PA.cons (PJ.sc ez_a) (PA.cons (PJ.sc ez_star) (PA.cons (PJ.sc ez_1_0) PA.nil))) (fun h329 => rfl)) (AC.p (PJ.args (PA.cons (PJ.sc ez_a) (PA.cons (PJ.sc ez_star) (PA.cons (PJ.sc ez_u1_0_0) PA.nil))) (fun h331 => rfl)) (AC.p (PJ.args (PA.cons (PJ.sc ez_a) (PA.cons (PJ.sc ez_star) (PA.cons (PJ.sc ez_1_0_0) PA.nil))) (fun h332 => rfl)) (AC.nil (fun h333 => rfl)))))))) (fun _ => rfl) (fun entries335 => (SJ.nrm (ds' := [(some (SV.scr script1)), (some (SV.ref stream_here2)), (some ((v tPk) packages_here3)), (some ((v tDeps) project_here4)), (some ((v tLk) lock5)), j25, j26, j43, (some ((v tS) long58)), (some ((v (tL tD)) names86)), (some ((v (tL tD)) needs_here118)), (some ((v tD) need121)), (some ((v tDeps) seven130)), (some ((v (tL tD)) parts154)), (some ((v tD) part157)), (some ((v tD) name160)), (some ((v (tL tD)) manifests259)), (some ((v (tT (consT (tT (consT tS (consT tS (consT (tT nilT) (oneT (tT nilT)))))) (oneT (tT (consT tS (consT tS (consT (tT (oneT tDep)) (oneT (tT nilT)))))))))) twice287)), (some ((v (tU (tT (consT tS (consT tS (consT tDeps (oneT (tT nilT)))))))) many300)), (some ((v (tL tD)) entries335)), none, none]) rfl (SJ.set (J.binPM (eb := (v tI)) (ec := (v tD)) (fun _ => rfl) (J.args (ec := (v tI)) (AC.p (fun _ => rfl) (AC.p (fun _ => rfl) (AC.nil (call_dy rfl))))) (fun a337 h336 => o_ix (sqL (t := tD)) entries335 a337 h336)) (fun _ => rfl) (fun entry338 => (SJ.nrm (ds' := [(some (SV.scr script1)), (some (SV.ref stream_here2)), (some ((v tPk) packages_here3)), (some ((v tDeps) project_here4)), (some ((v tLk) lock5)), j25, j26, j43, (some ((v tS) long58)), (some ((v (tL tD)) names86)), (some ((v (tL tD)) needs_here118)), (some ((v tD) need121)), (some ((v tDeps) seven130)), (some ((v (tL tD)) parts154)), (some ((v tD) part157)), (some ((v tD) name160)), (some ((v (tL tD)) manifests259)), (some ((v (tT (consT (tT (consT tS (consT tS (consT (tT nilT) (oneT (tT nilT)))))) (oneT (tT (consT tS (consT tS (consT (tT (oneT tDep)) (oneT (tT nilT)))))))))) twice287)), (some ((v (tU (tT (consT tS (consT tS (consT tDeps (oneT (tT nilT)))))))) many300)), (some ((v (tL tD)) entries335)), (some ((v tD) entry338)), none]) rfl (SJ.set (J.args (ec := (v tLk)) (AC.m (ea := (v (tL tEnt))) (J.fz (J.comp (u := tEnt) (J.rng (fun _ => rfl)) (fun k339 => ⟨_, rfl, (PJ.j (e := idB) pj_yes), (J.args (ec := (v tEnt)) (AC.p (PJ.sc ez_a) (AC.m (ea := (v tS)) (J.binPM (eb := (v tS)) (ec := (v tS)) (PJ.sc ez_1_0_) (J.args (ec := (v tS)) (AC.p (fun _ => rfl) (AC.nil (fun h340 => o_str k339 h340)))) (fun a342 h341 => o_catS z_1_0_ a342 h341)) (fun a345 => (AC.p (PJ.sc ez_1_0_0) (AC.nil (fun h344 => rfl)))))))⟩))) (fun a348 => (AC.nil (fun h347 => o_tuple (sqL (t := tEnt)) a348 h347))))) (fun _ => rfl) (fun long349 => (SJ.nrm (ds' := [(some (SV.scr script1)), (some (SV.ref stream_here2)), (some ((v tPk) packages_here3)), (some ((v tDeps) project_here4)), (some ((v tLk) lock5)), j25, j26, j43, (some ((v tLk) long349)), (some ((v (tL tD)) names86)), (some ((v (tL tD)) needs_here118)), (some ((v tD) need121)), (some ((v tDeps) seven130)), (some ((v (tL tD)) parts154)), (some ((v tD) part157)), (some ((v tD) name160)), (some ((v (tL tD)) manifests259)), (some ((v (tT (consT (tT (consT tS (consT tS (consT (tT nilT) (oneT (tT nilT)))))) (oneT (tT (consT tS (consT tS (consT (tT (oneT tDep)) (oneT (tT nilT)))))))))) twice287)), (some ((v (tU (tT (consT tS (consT tS (consT tDeps (oneT (tT nilT)))))))) many300)), (some ((v (tL tD)) entries335)), (some ((v tD) entry338)), none]) rfl (SJ.ifM (J.tOr (J.tOf (J.binMP (ea := (v tS)) (ec := (v tB)) (J.args (ec := (v tS)) (AC.p (PJ.sc ez_lock) (AC.p (PJ.args (PA.cons (fun _ => rfl) PA.nil) (fun h351 => rfl)) (AC.nil (call_se rfl rfl (fun _ => rfl) (fun h => ok_F_law_kind z_lock ((tT (oneT tD)).enc entry338) h)))))) (PJ.sc ez_lock) (fun a353 h352 => o_nes a353 z_lock h352))) (J.tOr (J.tOf (J.binMP (ea := (v tS)) (ec := (v tB)) (J.args (ec := (v tS)) (AC.p (PJ.sc ez_lock) (AC.p (fun _ => rfl) (AC.nil (call_se rfl rfl (fun _ => rfl) (fun h => ok_F_law_kind z_lock (tLk.enc long349) h)))))) (PJ.sc ez_lock) (fun a355 h354 => o_nes a355 z_lock h354))) (J.tOf (J.binMP (ea := (v tS)) (ec := (v tB)) (J.args (ec := (v tS)) (AC.p (PJ.sc ez_lock) (AC.p (PJ.sl (fun _ => rfl) po_n (po_s (fun _ => rfl)) (fun h => o_slU (t := tEnt) _ _ _ h)) (AC.nil (call_se rfl rfl (fun _ => rfl) (fun h => ok_F_law_kind z_lock (tLk.enc (slT long349 none (some (102 : Int)))) h)))))) (PJ.sc ez_done) (fun a357 h356 => o_nes a357 z_done h356))))) (SJ.retP (fun _ => rfl) rfl (fun _ => rfl)) (SJ.nil (SJ.one (SJ.retF (J.andV (J.binMP (ea := (v tS)) (ec := (v tB)) (J.args (ec := (v tS)) (AC.p (PJ.sc ez_lock) (AC.p (PJ.args (PA.cons (PJ.args (PA.cons (PJ.sc ez_a) (PA.cons (PJ.sc ez_star) (PA.cons (PJ.sc ez_1_0_0) PA.nil))) (fun h359 => rfl)) (PA.cons (PJ.args (PA.cons (PJ.sc ez_a) (PA.cons (PJ.sc ez_star) (PA.cons (PJ.sc ez_2_0_0) PA.nil))) (fun h361 => rfl)) PA.nil)) (fun h363 => rfl)) (AC.nil (call_se rfl rfl (fun _ => rfl) (fun h => ok_F_law_kind z_lock ((tT (consT tEnt (oneT tEnt))).enc ((z_a, z_star, z_1_0_0), (z_a, z_star, z_2_0_0))) h)))))) (PJ.sc ez_lock) (fun a365 h364 => o_eqs a365 z_lock h364)) (J.binMP (ea := (v tS)) (ec := (v tB)) (J.args (ec := (v tS)) (AC.p (PJ.sc ez_project) (AC.p (PJ.sl (fun _ => rfl) po_n (po_s (fun _ => rfl)) (fun h => o_slU (t := tDep) _ _ _ h)) (AC.nil (call_se rfl rfl (fun _ => rfl) (fun h => ok_F_law_kind z_project (tDeps.enc (slT seven130 none (some (6 : Int)))) h)))))) (PJ.sc ez_done) (fun a367 h366 => o_eqs a367 z_done h366))) (fun _ => rfl)))))))))))))))))))))))))))))))))))))))))))))))))))))))))))))))))))))))))))))
end Q
namespace Q
open PySem PySem.Spec PyProof.Rows L2 U
/-! G1: what is a version, a range, a name: finite facts. -/
def vers : List Str := [z_1_0_0, z_1_2_0, z_2_0_0, z_0_3_1, z_0_0_4, z_1_10_0]
def alts : List Str := [z_star] ++ vers.map (fun v => z_u ++ v) ++ vers ++ vers.map (fun v => z_t ++ v) ++ [z_ge1_0_0sl2_0_0, z_ge0_0_0sl1_0_1, z_ge1_1_0sl999_0_0]
def two (a b : Str) : Str := (a ++ z_sbbs) ++ b
def ranges : List Str := alts ++ alts.flatMap fun a => alts.map fun b => two a b
def names6 : List Str := [z_app, z_base, z_core, z_plug, z_view, z_zed]
def okV (s : Str) : Prop := F_is_version (.str s) = T.pure true
def okN (s : Str) : Prop := F_is_name (.str s) = T.pure true
def okR' (s : Str) : Prop := F_is_range (.str s) = T.pure true
def okb (l : List Str) (f : Str → T Bool) : Bool := l.all fun w => chk (f w []) (fun b => decide (b = true))
theorem okb_of {l : List Str} {f : Str → T Bool} (hi : ∀ w, HI (f w)) (c : okb l f = true) : ∀ w ∈ l, f w = T.pure true := fun w hw => (hi w).is (List.all_eq_true.mp c w hw)
theorem vers_ok : ∀ w ∈ vers, okV w := okb_of (fun w => hi_F_is_version _) (by decide +kernel)
theorem names_ok : ∀ w ∈ names6, okN w := okb_of (fun w => hi_F_is_name _) (by decide +kernel)
/-- a closed reckoning's result -/
def got {α : Type} (d : α) (o : Out α) : α := match o with
  | .ok a _ => a
  | _ => d
theorem got_of {α : Type} {d : α} {t : T α} (hi : HI t) (c : chk (t []) (fun _ => true) = true) : t = T.pure (got d (t [])) := by
  obtain ⟨a, e, _⟩ := hi.got c
  rw [e]; rfl
abbrev SP := (Int × Int × Int) × Option (Int × Int × Int)
/-- the span of an alternative -/
def spn (a : Str) : SP := ((got none (F_span_of a [])).getD ((0, 0, 0), none))
def chkSpan (a : Str) : Bool := chk (F_span_of a []) (fun o => o.isSome)
theorem spans_all : alts.all chkSpan = true := by decide +kernel
theorem span_ok {a : Str} (h : a ∈ alts) : F_span_of a = T.pure (some (spn a)) := by
  have c := List.all_eq_true.mp spans_all a h
  obtain ⟨o, e, z⟩ := (hi_F_span_of a).got c
  obtain ⟨s, rfl⟩ := Option.isSome_iff_exists.mp z
  rw [e]
  unfold spn
  rw [e]; rfl
theorem split_all : (alts.all fun a => decide (spls a z_sbbs = [a]) && alts.all fun b => decide (spls (two a b) z_sbbs = [a, b])) = true := by decide +kernel
theorem split_one {a : Str} (h : a ∈ alts) : spls a z_sbbs = [a] := by
  have := List.all_eq_true.mp split_all a h
  rw [Bool.and_eq_true] at this
  exact of_decide_eq_true this.1
theorem split_two {a b : Str} (h : a ∈ alts) (k : b ∈ alts) : spls (two a b) z_sbbs = [a, b] := by
  have := List.all_eq_true.mp split_all a h
  rw [Bool.and_eq_true] at this
  exact of_decide_eq_true (List.all_eq_true.mp this.2 b k)
theorem alts_len : (alts.all fun a => decide (a.length ≤ 100)) = true := by decide +kernel
theorem alt_len {a : Str} (h : a ∈ alts) : a.length ≤ 100 := of_decide_eq_true (List.all_eq_true.mp alts_len a h)
theorem len_add (a b : Str) : (a ++ b).length = a.length + b.length := by
  show (a.cps ++ b.cps).size = _
  rw [Array.size_append]; rfl
theorem range_cases {w : Str} (h : w ∈ ranges) : w ∈ alts ∨ ∃ a ∈ alts, ∃ b ∈ alts, w = two a b := by
  rcases List.mem_append.mp h with h | h
  · exact .inl h
  · obtain ⟨a, ha, h⟩ := List.mem_flatMap.mp h
    obtain ⟨b, hb, rfl⟩ := List.mem_map.mp h
    exact .inr ⟨a, ha, b, hb, rfl⟩
theorem range_one {a : Str} (h : a ∈ alts) : a ∈ ranges := List.mem_append_left _ h
theorem range_two {a b : Str} (h : a ∈ alts) (k : b ∈ alts) : two a b ∈ ranges := List.mem_append_right _ (List.mem_flatMap.mpr ⟨a, h, List.mem_map.mpr ⟨b, k, rfl⟩⟩)
/-- its alternatives -/
theorem range_parts {w : Str} (h : w ∈ ranges) : (∀ p ∈ spls w z_sbbs, p ∈ alts) ∧ 1 ≤ (spls w z_sbbs).length ∧ (spls w z_sbbs).length ≤ 2 ∧ w.length ≤ 300 := by
  rcases range_cases h with h | ⟨a, ha, b, hb, rfl⟩
  · rw [split_one h]
    have := alt_len h
    exact ⟨fun p hp => by rw [List.mem_singleton] at hp; exact hp ▸ h, by simp, by simp, by omega⟩
  · rw [split_two ha hb]
    have h1 := alt_len ha
    have h2 := alt_len hb
    have h3 : z_sbbs.length = 4 := rfl
    refine ⟨fun p hp => ?_, by simp, by simp, ?_⟩
    · simp only [List.mem_cons, List.not_mem_nil, or_false] at hp
      rcases hp with rfl | rfl <;> assumption
    · unfold two; rw [len_add, len_add]; omega
theorem splitT_bar {w : Str} (h : w.length ≤ 1000) : splitT w z_sbbs = T.pure (spls w z_sbbs) := T.guard_pos ⟨by decide, rfl, by have : sizeLine = 16777216 := rfl; omega⟩ _
theorem inX_some (l : List SP) : inX (tO tSpan) tN () (l.map some) = false := by
  unfold inX
  rw [List.any_map, List.any_eq_false]
  intro x _
  exact Bool.false_ne_true
theorem dec_tup {α : Type} {u : TyL α} (a : α) (h : u.decL (u.encL a) = some a) : (tT u).dec ((tT u).enc a) = some a := h
theorem dec_spans (l : List SP) : (tL tSpan).dec ((tL (tO tSpan)).enc (l.map some)) = some l := by
  show decAll tSpan ((l.map some).map (tO tSpan).enc) = some l
  rw [List.map_map]
  induction l with
  | nil => rfl
  | cons a l ih =>
    rw [List.map_cons]
    unfold decAll
    rw [ih]
    have : tSpan.dec (((tO tSpan).enc ∘ some) a) = some a := by
      obtain ⟨⟨x, y, z⟩, o⟩ := a
      cases o with
      | none => rfl
      | some o => obtain ⟨p, q, r⟩ := o; rfl
    rw [this]
theorem spans_ok {w : Str} (h : w ∈ ranges) : F_spans_of (.str w) = T.pure (some ((spls w z_sbbs).map spn)) := by
  obtain ⟨h1, h2, h3, h4⟩ := range_parts h
  unfold F_spans_of
  rw [show T.opt (isiS "str" (v tD (PyData.str w))) = T.pure true from rfl]
  simp only [T.pure_bind, Bool.not_true, if_false, Bool.false_eq_true]
  rw [show cast tS (PyData.str w) = T.pure w from rfl, T.pure_bind, splitT_bar (by omega), T.pure_bind,
    compT_map (f' := fun p => some (spn p)) (by omega) fun p hp => span_ok (h1 p hp), T.pure_bind,
    show (spls w z_sbbs).map (fun p => some (spn p)) = ((spls w z_sbbs).map spn).map some by rw [List.map_map]; rfl, inX_some, decide_eq_false (by unfold lnI; omega)]
  simp only [Bool.or_false, Bool.false_eq_true, if_false]
  rw [show cast (tL tSpan) ((tL (tO tSpan)).enc (((spls w z_sbbs).map spn).map some)) = T.pure ((spls w z_sbbs).map spn) from cast_ok (dec_spans _)]
  rfl
theorem ranges_ok {w : Str} (h : w ∈ ranges) : okR' w := by
  unfold okR' F_is_range
  rw [spans_ok h]; rfl
/-! ### the law's own -/
def numsL (s : Str) : List Int := got [] (F_law_numbers s [])
theorem nums_all : (vers.all fun s => chk (F_law_numbers s []) (fun _ => true)) = true := by decide +kernel
theorem nums_ok {s : Str} (h : s ∈ vers) : F_law_numbers s = T.pure (numsL s) := got_of (hi_F_law_numbers s) (List.all_eq_true.mp nums_all s h)
def fit1 (s a : Str) : Bool := got false (F_law_fits_one (numsL s) a [])
theorem fit1_all : (vers.all fun s => alts.all fun a => chk (F_law_fits_one (numsL s) a []) (fun _ => true)) = true := by decide +kernel
theorem fit1_ok {s a : Str} (h : s ∈ vers) (k : a ∈ alts) : F_law_fits_one (numsL s) a = T.pure (fit1 s a) := got_of (hi_F_law_fits_one _ _) (List.all_eq_true.mp (List.all_eq_true.mp fit1_all s h) a k)
/-- a version fits a range -/
def fit (s w : Str) : Bool := (spls w z_sbbs).any (fit1 s)
theorem any_loop {α : Type} {f : α → T Bool} {g : α → Bool} : ∀ {l : List α}, (∀ a ∈ l, f a = T.pure (g a)) → T.bind (forT (γ := Bool) (fun a (_ : Unit) => T.bind (f a) fun b => if b then T.pure (Lp.out true) else T.pure (Lp.nx ())) l ()) (Jn.go fun (_ : Unit) => T.pure false) = T.pure (l.any g)
  | [], _ => rfl
  | a :: l, h => by
    have ih := any_loop (f := f) (g := g) (l := l) fun b hb => h b (List.mem_cons_of_mem _ hb)
    unfold forT
    rw [h a List.mem_cons_self, T.pure_bind]
    cases e : g a with
    | true => simp [e]
    | false =>
      rw [List.any_cons, e, Bool.false_or, ← ih]
      simp
theorem fits_ok {s w : Str} (h : s ∈ vers) (k : w ∈ ranges) : F_law_fits s w = T.pure (fit s w) := by
  obtain ⟨h1, h2, h3, h4⟩ := range_parts k
  unfold F_law_fits
  rw [splitT_bar (by omega), T.pure_bind]
  exact any_loop (f := fun p => T.bind (F_law_numbers s) fun a => F_law_fits_one a p) fun p hp => by rw [nums_ok h, T.pure_bind]; exact fit1_ok h (h1 p hp)
end Q
namespace Q
open PySem PySem.Spec PyProof.Rows L2 U
/-! G2: packages, projects, locks that are good. -/
abbrev Man := Str × Str × List (Str × Str) × List (Str × Str)
abbrev Dep := Str × Str
abbrev Ent := Str × Str × Str
theorem gdDep : Gd tDep := gdT (gdCons gdS (gdOne gdS))
theorem gdEnt : Gd tEnt := gdT (gdCons gdS (gdCons gdS (gdOne gdS)))
theorem are_different_ok {α : Type} [DecidableEq α] {t : Ty α} (g : Gd t) (hn : t.n < 100) {xs : List α} (nd : xs.Nodup) (hl : xs.length ≤ 1000000) : F_are_different (xs.map t.enc) = T.pure true := by
  unfold F_are_different
  have hp := (plAll t hn xs).1
  rw [compT_map (f' := fun _ => true) (by rw [List.length_map]; exact hl) fun a ha => by
    obtain ⟨x, hx, rfl⟩ := List.mem_map.mp ha
    have e : countD tD (t.enc x) (xs.map t.enc) = T.pure (1 : Int) := by
      unfold countD
      rw [T.guard_pos ⟨by rw [show (xs.map t.enc).map tD.enc = xs.map t.enc from List.map_id _]; exact hp, okD_t hn x⟩, List.countP_map]
      congr 2
      have := count_good g x xs
      rw [List.Nodup.count nd, if_pos hx] at this
      exact this
    rw [e]; rfl]
  rw [T.pure_bind, all_true fun _ _ => rfl]
def okDep (d : Dep) : Prop := okN d.1 ∧ okR' d.2
theorem is_dependency_ok {d : Dep} (h : okDep d) : F_is_dependency (tDep.enc d) = T.pure true := by
  unfold F_is_dependency
  rw [show T.opt (isiS "tuple" (v tD (tDep.enc d))) = T.pure true from rfl, show lenD (tDep.enc d) = T.pure 2 from rfl, show ixD (tDep.enc d) 0 = T.pure (.str d.1) from rfl, show ixD (tDep.enc d) 1 = T.pure (.str d.2) from rfl]
  simp only [T.pure_bind]
  rw [show F_is_name (.str d.1) = T.pure true from h.1, show F_is_range (.str d.2) = T.pure true from h.2]
  rfl
theorem are_dependencies_ok {l : List Dep} (h : ∀ d ∈ l, okDep d) (hl : l.length ≤ 6) : F_are_dependencies (tDeps.enc l) = T.pure true := by
  unfold F_are_dependencies
  rw [show T.opt (isiS "tuple" (v tD (tDeps.enc l))) = T.pure true from rfl, show lenD (tDeps.enc l) = T.pure ((l.map tDep.enc).length : Int) from rfl, show cast (tU tD) (tDeps.enc l) = T.pure (l.map tDep.enc) from cast_tup _]
  simp only [T.pure_bind]
  rw [compT_map (f' := fun _ => true) (by rw [List.length_map]; omega) fun a ha => by
    obtain ⟨x, hx, rfl⟩ := List.mem_map.mp ha
    exact is_dependency_ok (h x hx)]
  have e : decide (((l.map tDep.enc).length : Int) > 6) = false := decide_eq_false (by rw [List.length_map]; omega)
  rw [e, T.pure_bind, all_true fun _ _ => rfl]
  rfl
def okE (e : Ent) : Prop := okN e.1 ∧ okR' e.2.1 ∧ okV e.2.2
theorem is_entry_ok {e : Ent} (h : okE e) : F_is_entry (tEnt.enc e) = T.pure true := by
  unfold F_is_entry
  rw [show T.opt (isiS "tuple" (v tD (tEnt.enc e))) = T.pure true from rfl, show lenD (tEnt.enc e) = T.pure 3 from rfl, show (fun h => dy tD (gSl (.val (tEnt.enc e)) none (some (2 : Int)) h)) = T.pure (tDep.enc (e.1, e.2.1)) from rfl, show ixD (tEnt.enc e) 2 = T.pure (.str e.2.2) from rfl]
  simp only [T.pure_bind]
  rw [is_dependency_ok (d := (e.1, e.2.1)) ⟨h.1, h.2.1⟩, show F_is_version (.str e.2.2) = T.pure true from h.2.2]
  rfl
/-- a manifest that is good -/
structure okM (m : Man) : Prop where
  n : okN m.1
  v : okV m.2.1
  d : ∀ d ∈ m.2.2.1, okDep d
  p : ∀ d ∈ m.2.2.2, okDep d
  dl : m.2.2.1.length ≤ 6
  pl : m.2.2.2.length ≤ 6
  nd : (m.1 :: (m.2.2.1.map (·.1) ++ m.2.2.2.map (·.1))).Nodup
theorem map_fst (l : List Dep) : compT (l.map tDep.enc) (fun _ => T.pure true) (fun d => ixD d 0) = compT (l.map tDep.enc) (fun _ => T.pure true) (fun d => ixD d 0) := rfl
theorem firsts_ok {l : List Dep} (hl : l.length ≤ 1000) : compT (l.map tDep.enc) (fun _ => T.pure true) (fun d => ixD d (0 : Int)) = T.pure ((l.map (·.1)).map tS.enc) := by
  have : ∀ {l : List Dep}, compC (fun _ => T.pure true) (fun d => ixD d (0 : Int)) (l.map tDep.enc) = T.pure ((l.map (·.1)).map tS.enc) := by
    intro l
    induction l with
    | nil => rfl
    | cons a l ih =>
      rw [List.map_cons]
      unfold compC
      rw [ih]
      rfl
  unfold compT
  rw [this]
  exact T.guard_pos (by rw [List.length_map]; have : sizeLine = 16777216 := rfl; omega) _
theorem is_manifest_ok {m : Man} (h : okM m) : F_is_manifest (tMan.enc m) = T.pure true := by
  unfold F_is_manifest
  rw [show T.opt (isiS "tuple" (v tD (tMan.enc m))) = T.pure true from rfl, show lenD (tMan.enc m) = T.pure 4 from rfl, show ixD (tMan.enc m) 0 = T.pure (.str m.1) from rfl, show ixD (tMan.enc m) 1 = T.pure (.str m.2.1) from rfl,
    show ixD (tMan.enc m) 2 = T.pure (tDeps.enc m.2.2.1) from rfl, show ixD (tMan.enc m) 3 = T.pure (tDeps.enc m.2.2.2) from rfl]
  simp only [T.pure_bind]
  rw [show F_is_name (.str m.1) = T.pure true from h.n, show F_is_version (.str m.2.1) = T.pure true from h.v, are_dependencies_ok h.d h.dl, are_dependencies_ok h.p h.pl,
    show cast (tU tD) (tDeps.enc m.2.2.1) = T.pure (m.2.2.1.map tDep.enc) from cast_tup _, show cast (tU tD) (tDeps.enc m.2.2.2) = T.pure (m.2.2.2.map tDep.enc) from cast_tup _]
  simp only [T.pure_bind]
  have d1 := h.dl
  have d2 := h.pl
  rw [firsts_ok (by omega), firsts_ok (by omega)]
  simp only [T.pure_bind]
  rw [catT_ok (by simp; omega), T.pure_bind, catT_ok (by simp; omega), T.pure_bind,
    show [PyData.str m.1] ++ (m.2.2.1.map (·.1)).map tS.enc ++ (m.2.2.2.map (·.1)).map tS.enc = (m.1 :: (m.2.2.1.map (·.1) ++ m.2.2.2.map (·.1))).map tS.enc by simp; rfl,
    are_different_ok gdS (by decide) h.nd (by simp; omega)]
  rfl
/-- packages that are good -/
structure okPk (l : List Man) : Prop where
  m : ∀ m ∈ l, okM m
  len : l.length ≤ 16
  nd : (l.map fun m => (m.1, m.2.1)).Nodup
theorem heads_ok {l : List Man} (hl : l.length ≤ 1000) : compT (l.map tMan.enc) (fun _ => T.pure true) (fun d h => dy tD (gSl (.val d) none (some (2 : Int)) h)) = T.pure ((l.map fun m => (m.1, m.2.1)).map tDep.enc) := by
  have : ∀ {l : List Man}, compC (fun _ => T.pure true) (fun d h => dy tD (gSl (.val d) none (some (2 : Int)) h)) (l.map tMan.enc) = T.pure ((l.map fun m => (m.1, m.2.1)).map tDep.enc) := by
    intro l
    induction l with
    | nil => rfl
    | cons a l ih =>
      rw [List.map_cons]
      unfold compC
      rw [ih]
      rfl
  unfold compT
  rw [this]
  exact T.guard_pos (by rw [List.length_map]; have : sizeLine = 16777216 := rfl; omega) _
theorem are_packages_ok {l : List Man} (h : okPk l) : F_are_packages (tPk.enc l) = T.pure true := by
  have hl := h.len
  unfold F_are_packages
  rw [show T.opt (isiS "tuple" (v tD (tPk.enc l))) = T.pure true from rfl, show lenD (tPk.enc l) = T.pure ((l.map tMan.enc).length : Int) from rfl, show cast (tU tD) (tPk.enc l) = T.pure (l.map tMan.enc) from cast_tup _]
  simp only [T.pure_bind]
  rw [compT_map (f' := fun _ => true) (by rw [List.length_map]; omega) fun a ha => by
    obtain ⟨x, hx, rfl⟩ := List.mem_map.mp ha
    exact is_manifest_ok (h.m x hx), heads_ok (by omega),
    show decide (((l.map tMan.enc).length : Int) > 16) = false from decide_eq_false (by rw [List.length_map]; omega)]
  simp only [T.pure_bind]
  rw [all_true fun _ _ => rfl, are_different_ok gdDep (by decide) h.nd (by rw [List.length_map]; omega)]
  rfl
theorem check_packages_ok {l : List Man} (h : okPk l) : F_check_packages (tPk.enc l) = T.pure () := by
  unfold F_check_packages
  rw [are_packages_ok h]
  rfl
structure okPj (l : List Dep) : Prop where
  d : ∀ d ∈ l, okDep d
  len : l.length ≤ 6
  nd : (l.map (·.1)).Nodup
theorem check_project_ok {l : List Dep} (h : okPj l) : F_check_project (tDeps.enc l) = T.pure () := by
  have hl := h.len
  unfold F_check_project
  rw [are_dependencies_ok h.d h.len, show cast (tU tD) (tDeps.enc l) = T.pure (l.map tDep.enc) from cast_tup _]
  simp only [T.pure_bind]
  rw [firsts_ok (by omega), T.pure_bind, are_different_ok gdS (by decide) h.nd (by rw [List.length_map]; omega)]
  rfl
structure okLk (l : List Ent) : Prop where
  e : ∀ e ∈ l, okE e
  len : l.length ≤ 102
  nd : (l.map fun e => (e.1, e.2.1)).Nodup
theorem ents_ok {l : List Ent} (hl : l.length ≤ 1000) : compT (l.map tEnt.enc) (fun _ => T.pure true) (fun d h => dy tD (gSl (.val d) none (some (2 : Int)) h)) = T.pure ((l.map fun m => (m.1, m.2.1)).map tDep.enc) := by
  have : ∀ {l : List Ent}, compC (fun _ => T.pure true) (fun d h => dy tD (gSl (.val d) none (some (2 : Int)) h)) (l.map tEnt.enc) = T.pure ((l.map fun m => (m.1, m.2.1)).map tDep.enc) := by
    intro l
    induction l with
    | nil => rfl
    | cons a l ih =>
      rw [List.map_cons]
      unfold compC
      rw [ih]
      rfl
  unfold compT
  rw [this]
  exact T.guard_pos (by rw [List.length_map]; have : sizeLine = 16777216 := rfl; omega) _
theorem check_lock_ok {l : List Ent} (h : okLk l) : F_check_lock (tLk.enc l) = T.pure () := by
  have hl := h.len
  unfold F_check_lock
  rw [show T.opt (isiS "tuple" (v tD (tLk.enc l))) = T.pure true from rfl, show lenD (tLk.enc l) = T.pure ((l.map tEnt.enc).length : Int) from rfl, show cast (tU tD) (tLk.enc l) = T.pure (l.map tEnt.enc) from cast_tup _]
  simp only [T.pure_bind]
  rw [compT_map (f' := fun _ => true) (by rw [List.length_map]; omega) fun a ha => by
    obtain ⟨x, hx, rfl⟩ := List.mem_map.mp ha
    exact is_entry_ok (h.e x hx), ents_ok (by omega),
    show decide (((l.map tEnt.enc).length : Int) > 102) = false from decide_eq_false (by rw [List.length_map]; omega)]
  simp only [T.pure_bind]
  rw [all_true fun _ _ => rfl, are_different_ok gdDep (by decide) h.nd (by rw [List.length_map]; omega)]
  rfl
end Q
namespace Q
open PySem PySem.Spec PyProof.Rows L2 U
theorem cell_ok (ns : List Int) (k : Nat) (h : LH) : ∃ z, run_law_cell [.scr ns, .val (.int k)] h = .ok (.val (.int z)) h := by
  by_cases e : k < ns.length
  · refine ⟨ns[k], ?_⟩
    simp -implicitDefEqProofs [st_law_cell, b_law_cell, e, gIxS, U.atI_nat]
  · refine ⟨0, ?_⟩
    simp -implicitDefEqProofs [st_law_cell, b_law_cell, e]
theorem cell_pure (ns : List Int) (k : Nat) (h : LH) : ∃ z, gPure run_law_cell [.scr ns, .val (.int k)] h = .ok (.val (.int z)) h := by
  obtain ⟨z, e⟩ := cell_ok ns k []
  exact ⟨z, by simp -implicitDefEqProofs [gPure, e]⟩
def drawsI (z : Int) (g : Bool) (h : LH) (i : Nat) (ds : DS) (h' : LH) : Prop := h' = h ∧ ∃ (n : Int) (l : List Int) (t u : Option SV), ds = [some (.val (.int z)), some (.val (.int 12)), some (.val (.int n)), some (.val (.bool g)), some (.own (l.map .int)), t, u] ∧
      l.length = min i 12 ∧ ∀ x ∈ l, 0 ≤ x ∧ x < 60
theorem draws_more {l : List Int} (hb : ∀ x ∈ l, 0 ≤ x ∧ x < 60) (n : Int) : ∀ x ∈ l ++ [n % 60], 0 ≤ x ∧ x < 60 := by
  intro x hx
  rcases List.mem_append.mp hx with hx | hx
  · exact hb x hx
  · rw [List.mem_singleton] at hx; subst hx; omega
theorem draws_t {z n : Int} {l : List Int} {t u : Option SV} {h : LH} {i : Nat} (hk : (i : Int) < 12) (hs : l.length < sizeLine) :
    l_law_draws_1 [some (.val (.int z)), some (.val (.int 12)), some (.val (.int n)), some (.val (.bool true)), some (.own (l.map .int)), some (.val (.int i)), u] h =
    .nx [some (.val (.int z)), some (.val (.int 12)), some (.val (.int (n / 60))), some (.val (.bool true)), some (.own ((l ++ [n % 60]).map .int)), some (.val (.int i)), u] h := by
  simp -implicitDefEqProofs [l_law_draws_1, hk, hs, gMod_int, gDiv_int]
theorem draws_e {z n : Int} {l : List Int} {g : Bool} {t u : Option SV} {h : LH} {i : Nat} (hk : ¬ (i : Int) < 12) :
    l_law_draws_1 [some (.val (.int z)), some (.val (.int 12)), some (.val (.int n)), some (.val (.bool g)), some (.own (l.map .int)), some (.val (.int i)), u] h =
    .nx [some (.val (.int z)), some (.val (.int 12)), some (.val (.int n)), some (.val (.bool g)), some (.own (l.map .int)), some (.val (.int i)), u] h := by
  simp -implicitDefEqProofs [l_law_draws_1, hk]
theorem draws_f {z n m1 m2 : Int} {l : List Int} {t u : Option SV} {h : LH} {i : Nat} (hk : (i : Int) < 12) (hs : l.length < sizeLine) (hm1 : (n * 48271 + i * 69621 + 11) % 2147483647 = m1)
    (hm2 : (m1 * m1 + i * 7919 + 5) % 998244353 = m2) (b1 : -(2 ^ 64) < m1) (b2 : m1 < 2 ^ 64) :
    l_law_draws_1 [some (.val (.int z)), some (.val (.int 12)), some (.val (.int n)), some (.val (.bool false)), some (.own (l.map .int)), some (.val (.int i)), u] h =
    .nx [some (.val (.int z)), some (.val (.int 12)), some (.val (.int n)), some (.val (.bool false)), some (.own ((l ++ [m2 % 60]).map .int)), some (.val (.int i)), some (.val (.int m2))] h := by
  simp -implicitDefEqProofs [l_law_draws_1, hk, hs, gMod_int, gMul_intR, hm1, hm2, gMul_intR b1 b2]
theorem draws_ok (z : Int) (h : LH) : ∃ l : List Int, l.length = 12 ∧ (∀ x ∈ l, 0 ≤ x ∧ x < 60) ∧ run_law_draws [.val (.int z), .val (.int 12)] h = .ok (.val (.list (l.map .int))) h := by
  have key := fun (g : Bool) (n0 : Int) => for_inv (ftg := tgName 5) (fb := l_law_draws_1) (drawsI z g h)
    (items := rangeD 0 60) (ds := [some (.val (.int z)), some (.val (.int 12)), some (.val (.int n0)), some (.val (.bool g)), some (.own []), none, none]) (h := h)
    ⟨rfl, n0, [], none, none, rfl, rfl, by simp⟩ (by
      rintro i x ds h' hx ⟨rfl, n, l, t, u, rfl, hl, hb⟩
      obtain ⟨hi, rfl⟩ := range_get hx
      refine ⟨_, by rw [u_tgName, if_pos (by simp)], ?_⟩
      by_cases hk : i < 12
      · have hk' : (i : Int) < 12 := by omega
        have hs : l.length < sizeLine := by rw [hl]; have := Nat.min_le_right i 12; simp [sizeLine]; omega
        cases g with
        | true => exact ⟨_, _, Or.inl (draws_t (t := t) hk' hs), rfl, n / 60, l ++ [n % 60], some (.val (.int i)), u, rfl, by simp [hl]; omega, draws_more hb _⟩
        | false =>
          exact ⟨_, _, Or.inl (draws_f (t := t) hk' hs rfl rfl (by omega) (by omega)), rfl, n, l ++ [_], some (.val (.int i)), some (.val (.int _)), rfl, by simp [hl]; omega, draws_more hb _⟩
      · have hk' : ¬ (i : Int) < 12 := by omega
        exact ⟨_, _, Or.inl (draws_e (t := t) hk'), rfl, n, l, some (.val (.int i)), u, rfl, by rw [hl]; omega, hb⟩)
  generalize hz : (if z < 0 then -z else z) = az
  obtain ⟨ds', h', e, rfl, n, l, t, u, rfl, hl, hb⟩ := key (decide (1000000000000000000 ≤ az)) az
  refine ⟨l, by rw [hl]; simp, hb, ?_⟩
  rw [st_law_draws]
  unfold b_law_draws
  simp -implicitDefEqProofs [gAbs, hz, gPow, cPow, gI, okR]
  rw [e]
  simp
theorem draws_pure (z : Int) (h : LH) : ∃ l : List Int, l.length = 12 ∧ (∀ x ∈ l, 0 ≤ x ∧ x < 60) ∧ gPure run_law_draws [.val (.int z), .val (.int 12)] h = .ok (.val (.list (l.map .int))) h := by
  obtain ⟨l, a, b, e⟩ := draws_ok z []
  exact ⟨l, a, b, by simp -implicitDefEqProofs [gPure, e]⟩
/-- the stream's heap: its place, its digits -/
def Strm (h : LH) : Prop := ∃ (p : Nat) (l : List Int) (r : LH), h = .lst [.val (.int p)] :: .lst [.val (.list (l.map .int)), .ref 0] :: r ∧ 0 < l.length ∧ ∀ x ∈ l, 0 ≤ x ∧ x < 60
def rest (h : LH) : LH := h.drop 2
def streamI (ns : List Int) (c : Nat) (i : Nat) (ds : DS) (h : LH) : Prop := h = [] ∧ ∃ (l : List Int) (t : Option SV), ds = [some (.scr ns), some (.val (.int 0)), some (.val (.int c)), some (.own (l.map .int)), t] ∧ l.length = 12 * i ∧ ∀ x ∈ l, 0 ≤ x ∧ x < 60
theorem stream_step {ns : List Int} {c : Nat} (hc2 : c ≤ 100) {i : Nat} (hi : i < c) {ds : DS} {h : LH} (z : streamI ns c i ds h) : ∃ ds1, tgName 4 (.int i) ds = some ds1 ∧ ∃ ds2 h2, (l_law_stream_1 ds1 h = .nx ds2 h2 ∨ l_law_stream_1 ds1 h = .ct ds2 h2) ∧ streamI ns c (i + 1) ds2 h2 := by
  obtain ⟨rfl, l, t, rfl, hl, hb⟩ := z
  refine ⟨_, by rw [u_tgName, if_pos (by simp)], ?_⟩
  obtain ⟨z, ez⟩ := cell_pure ns i []
  obtain ⟨l2, hl2, hb2, e2⟩ := draws_pure z []
  have hs : l.length + l2.length ≤ sizeLine := by rw [hl, hl2]; simp [sizeLine]; omega
  have e : l_law_stream_1 [some (.scr ns), some (.val (.int 0)), some (.val (.int c)), some (.own (l.map .int)), some (.val (.int i))] [] =
      .nx [some (.scr ns), some (.val (.int 0)), some (.val (.int c)), some (.own ((l ++ l2).map .int)), some (.val (.int i))] [] := by
    simp -implicitDefEqProofs [l_law_stream_1, ez, e2, hs]
  refine ⟨_, _, Or.inl e, rfl, l ++ l2, some (.val (.int i)), rfl, ?_, ?_⟩
  · rw [List.length_append, hl, hl2]; omega
  · intro x hx
    rcases List.mem_append.mp hx with hx | hx
    · exact hb x hx
    · exact hb2 x hx
theorem stream_run {ns : List Int} {c : Nat} (hc2 : c ≤ 100) {l : List Int} {t : Option SV}
    (e : forL (tgName 4) l_law_stream_1 (rangeD 0 c) [some (.scr ns), some (.val (.int 0)), some (.val (.int c)), some (.own []), none] [] = .nx [some (.scr ns), some (.val (.int 0)), some (.val (.int c)), some (.own (l.map .int)), t] []) :
    run_law_stream [.scr ns, .val (.int 0), .val (.int c)] [] = .ok (.ref 1) [.lst [.val (.int 0)], .lst [.val (.list (l.map .int)), .ref 0]] := by
  have ok : okR (c : Int) := by unfold okR; omega
  rw [st_law_stream]
  unfold b_law_stream
  simp -implicitDefEqProofs [ok]
  rw [e]
  simp -implicitDefEqProofs [gLstH, plainsB, sizeLine]
theorem stream_ok (ns : List Int) (c : Nat) (hc : 0 < c) (hc2 : c ≤ 100) : ∃ h', gCall run_law_stream [.scr ns, .val (.int 0), .val (.int c)] [] = .ok (.ref 1) h' ∧ Strm h' ∧ rest h' = [] := by
  have key := for_inv (ftg := tgName 4) (fb := l_law_stream_1) (streamI ns c) (items := rangeD 0 c)
    (ds := [some (.scr ns), some (.val (.int 0)), some (.val (.int c)), some (.own []), none]) (h := []) ⟨rfl, [], none, rfl, rfl, by simp⟩ (by
      intro i x ds h' hx z
      obtain ⟨hi, rfl⟩ := range_get hx
      exact stream_step hc2 hi z)
  obtain ⟨ds', h', e, rfl, l, t, rfl, hl, hb⟩ := key
  rw [range_len] at hl
  refine ⟨_, ?_, ⟨0, l, [], rfl, by rw [hl]; omega, hb⟩, rfl⟩
  simp -implicitDefEqProofs [gCall, stream_run hc2 e]
theorem next_ok {h : LH} (hs : Strm h) (m : Nat) (hm : 0 < m) : ∃ (v : Nat) (h' : LH), gCall run_law_next [.ref 1, .val (.int m)] h = .ok (.val (.int v)) h' ∧ v < m ∧ Strm h' ∧ rest h' = rest h := by
  obtain ⟨p, l, r, rfl, hl, hb⟩ := hs
  have hlt : p % l.length < l.length := Nat.mod_lt _ hl
  obtain ⟨v, hv⟩ : ∃ v : Nat, (v : Int) = l[p % l.length] % m := ⟨(l[p % l.length] % m).toNat, by
    rw [Int.toNat_of_nonneg (Int.emod_nonneg _ (by omega))]⟩
  refine ⟨v, .lst [.val (.int (p + 1 : Nat))] :: .lst [.val (.list (l.map .int)), .ref 0] :: r, ?_, ?_, ⟨p + 1, l, r, rfl, hl, hb⟩, rfl⟩
  · have : run_law_next [.ref 1, .val (.int m)] (.lst [.val (.int p)] :: .lst [.val (.list (l.map .int)), .ref 0] :: r) =
      .ok (.val (.int v)) (.lst [.val (.int (p + 1 : Nat))] :: .lst [.val (.list (l.map .int)), .ref 0] :: r) := by
      have hp : (0 : Int) < l.length := by omega
      have hm' : (0 : Int) < m := by omega
      have ix : atI (l.map PyData.int) ((p : Int) % (l.length : Int)) = some (.int l[p % l.length]) := by
        rw [← Int.natCast_emod, U.atI_nat _ _ (by rw [List.length_map]; exact hlt), List.getElem_map]
      rw [st_law_next]
      unfold b_law_next
      simp -implicitDefEqProofs [gIxA, gIx, gMod_int hp, gMod_int hm', atI, ixN]
      unfold atI ixN at ix
      simp at ix
      simp [ix, hv, gMod_int hm']
    simp -implicitDefEqProofs [gCall, this]
  · have := Int.emod_lt_of_pos l[p % l.length] (by omega : (0 : Int) < m)
    omega
theorem next_i {h : LH} (hs : Strm h) {m : Int} (hm : 0 < m) : ∃ (v : Nat) (h' : LH), gCall run_law_next [.ref 1, .val (.int m)] h = .ok (.val (.int v)) h' ∧ (v : Int) < m ∧ Strm h' ∧ rest h' = rest h := by
  obtain ⟨v, h', e, hv, z⟩ := next_ok hs m.toNat (by omega)
  rw [Int.toNat_of_nonneg (by omega)] at e
  exact ⟨v, h', e, by omega, z⟩
theorem stream_i (ns : List Int) {c : Int} (hc : 0 < c) (hc2 : c ≤ 100) : ∃ h', gCall run_law_stream [.scr ns, .val (.int 0), .val (.int c)] [] = .ok (.ref 1) h' ∧ Strm h' ∧ rest h' = [] := by
  have := stream_ok ns c.toNat (by omega) (by omega)
  rwa [Int.toNat_of_nonneg (by omega)] at this
/-- data that the law compares, n deep at the most -/
def okS : Nat → D → Prop
  | _, .none => True
  | _, .bool _ => True
  | _, .int _ => True
  | _, .str _ => True
  | 0, _ => False
  | n + 1, .list ds => (ds.length : Int) < 2 ^ 62 ∧ ∀ d ∈ ds, okS n d
  | n + 1, .tuple ds => (ds.length : Int) < 2 ^ 62 ∧ ∀ d ∈ ds, okS n d
  | _, .dict _ => False
theorem same_loop {self : RF} {c : List D → D} (hc : ∀ (l : List D) (i : Int) (h : LH), gIx (.val (c l)) (.val (.int i)) h = orBad (atI l i) fun d => .ok (.val d) h) {ds : List D}
    (H : ∀ d ∈ ds, ∀ h, self [.val d, .val d] h = .ok (.val (.bool true)) h) (h : LH) : ∃ ds' h', forL (tgName 2) (l_law_same_1 self) (rangeD 0 ds.length) [some (.val (c ds)), some (.val (c ds)), none] h = .nx ds' h' ∧ h' = h := by
  obtain ⟨ds', h', e, z⟩ := for_inv (ftg := tgName 2) (fb := l_law_same_1 self) (fun _ s h' => h' = h ∧ ∃ t, s = [some (.val (c ds)), some (.val (c ds)), t]) (items := rangeD 0 ds.length) (ds := [some (.val (c ds)), some (.val (c ds)), none]) (h := h) ⟨rfl, none, rfl⟩ (by
    rintro i x s h' hx ⟨rfl, t, rfl⟩
    obtain ⟨hi, rfl⟩ := range_get hx
    refine ⟨_, by rw [u_tgName, if_pos (by simp)], ?_⟩
    have e : l_law_same_1 self [some (.val (c ds)), some (.val (c ds)), some (.val (.int i))] h' = .nx [some (.val (c ds)), some (.val (c ds)), some (.val (.int i))] h' := by
      simp -implicitDefEqProofs [l_law_same_1, gIxA, hc, U.atI_nat ds i hi, gPure, H ds[i] (List.getElem_mem hi)]
    exact ⟨_, _, Or.inl e, rfl, _, rfl⟩)
  exact ⟨ds', h', e, z.1⟩
theorem same_refl : ∀ (n : Nat) (d : D), okS n d → ∀ h, run_law_same (n + 1) [.val d, .val d] h = .ok (.val (.bool true)) h
  | n, .none, _, h => by rw [st_law_same]; simp -implicitDefEqProofs [b_law_same]
  | n, .bool b, _, h => by rw [st_law_same]; simp -implicitDefEqProofs [b_law_same]
  | n, .int b, _, h => by rw [st_law_same]; simp -implicitDefEqProofs [b_law_same, gPure, st_law_is_integer, b_law_is_integer]
  | n, .str b, _, h => by rw [st_law_same]; simp -implicitDefEqProofs [b_law_same]
  | n + 1, .list ds, ⟨hl, q⟩, h => by
    obtain ⟨ds', h', e, rfl⟩ := same_loop (c := .list) (fun l i h => rfl) (fun d hd h => same_refl n d (q d hd) h) h
    have ok : okR (ds.length : Int) := by unfold okR; omega
    rw [st_law_same]
    simp -implicitDefEqProofs [b_law_same, ok]
    rw [e]
    simp -implicitDefEqProofs
  | n + 1, .tuple ds, ⟨hl, q⟩, h => by
    obtain ⟨ds', h', e, rfl⟩ := same_loop (c := .tuple) (fun l i h => rfl) (fun d hd h => same_refl n d (q d hd) h) h
    have ok : okR (ds.length : Int) := by unfold okR; omega
    rw [st_law_same]
    simp -implicitDefEqProofs [b_law_same, ok]
    rw [e]
    simp -implicitDefEqProofs
  | 0, .dict _, q, _ => q.elim
  | n + 1, .dict _, q, _ => q.elim
theorem same_eq {d e : D} (q : d = e) (k : okS 7 e) (h : LH) : gPure (run_law_same 8) [.val d, .val e] h = .ok (.val (.bool true)) h := by
  subst q
  simp -implicitDefEqProofs [gPure, same_refl 7 d k []]
end Q
namespace Q
open PySem PySem.Spec PyProof.Rows L2 U
/-! G3: what is drawn. -/
/-- the objects behind the stream stay -/
def Fr (h h' : LH) : Prop := h.length ≤ h'.length ∧ ∀ n o, 2 ≤ n → h[n]? = some o → h'[n]? = some o
theorem Fr.refl (h : LH) : Fr h h := ⟨Nat.le_refl _, fun _ _ _ e => e⟩
theorem Fr.trans {a b c : LH} (x : Fr a b) (y : Fr b c) : Fr a c := ⟨Nat.le_trans x.1 y.1, fun n o hn e => y.2 n o hn (x.2 n o hn e)⟩
/-- whatever is drawn, t gives something good -/
def Dr {α : Type} (t : T α) (P : α → Prop) : Prop := ∀ h, Strm h → ∃ a h', t h = .ok a h' ∧ Strm h' ∧ Fr h h' ∧ P a
section
variable {α β σ γ : Type}
theorem Dr.pure {a : α} {P : α → Prop} (p : P a) : Dr (T.pure a) P := fun h s => ⟨a, h, rfl, s, .refl h, p⟩
theorem Dr.bind {t : T α} {k : α → T β} {P : α → Prop} {Q : β → Prop} (p : Dr t P) (q : ∀ a, P a → Dr (k a) Q) : Dr (T.bind t k) Q := fun h s => by
  obtain ⟨a, h1, e1, s1, f1, z1⟩ := p h s
  obtain ⟨b, h2, e2, s2, f2, z2⟩ := q a z1 h1 s1
  refine ⟨b, h2, ?_, s2, f1.trans f2, z2⟩
  show (t h).bind _ = _
  rw [e1]
  exact e2
theorem Dr.imp {t : T α} {P Q : α → Prop} (p : Dr t P) (i : ∀ a, P a → Q a) : Dr t Q := fun h s => let ⟨a, h', e, s', f, z⟩ := p h s; ⟨a, h', e, s', f, i a z⟩
theorem Dr.eq {t u : T α} {P : α → Prop} (e : t = u) (p : Dr u P) : Dr t P := e ▸ p
theorem Dr.ite {c : Prop} [Decidable c] {t u : T α} {P : α → Prop} (p : c → Dr t P) (q : ¬ c → Dr u P) : Dr (if c then t else u) P := by
  by_cases z : c
  · rw [if_pos z]; exact p z
  · rw [if_neg z]; exact q z
theorem Dr.for0A {body : α → σ → T σ} (I : Nat → σ → Prop) : ∀ (l : List α) (i : Nat) (s : σ), I i s → (∀ j a s, l[j]? = some a → I (i + j) s → Dr (body a s) (I (i + j + 1))) → Dr (forT0 body l s) (I (i + l.length))
  | [], i, s, h, _ => Dr.pure h
  | a :: l, i, s, h, H => Dr.bind (H 0 a s rfl h) fun s' h' => by
    have := Dr.for0A I l (i + 1) s' h' fun j b s hb hI => by
      have := H (j + 1) b s (by simpa using hb) (by rwa [show i + (j + 1) = i + 1 + j by omega])
      rwa [show i + (j + 1) + 1 = i + 1 + j + 1 by omega] at this
    rw [List.length_cons]
    rwa [show i + (l.length + 1) = i + 1 + l.length by omega]
theorem Dr.for0 {body : α → σ → T σ} (I : Nat → σ → Prop) {l : List α} {s : σ} (h : I 0 s) (H : ∀ j a s, l[j]? = some a → I j s → Dr (body a s) (I (j + 1))) : Dr (forT0 body l s) (I l.length) := by
  have := Dr.for0A I l 0 s h fun j a s e hI => by
    rw [Nat.zero_add] at hI ⊢
    exact H j a s e hI
  rwa [Nat.zero_add] at this
theorem rng_at {n j : Nat} {a : Int} (h : ((List.range n).map fun i => ((i : Nat) : Int))[j]? = some a) : a = (j : Int) ∧ j < n := by
  rw [List.getElem?_map] at h
  by_cases hj : j < n
  · rw [List.getElem?_range hj] at h
    exact ⟨(Option.some.inj h).symm, hj⟩
  · rw [List.getElem?_eq_none (by rw [List.length_range]; omega)] at h
    cases h
end
theorem next_dr {m : Int} (hm : 0 < m) : Dr (F_law_next 1 m) (fun v => 0 ≤ v ∧ v < m) := fun h s => by
  obtain ⟨v, h', e, hv, s', hr⟩ := next_i s hm
  refine ⟨v, h', ?_, s', ?_, by omega, hv⟩
  · show dy tI (gCall run_law_next [.ref 1, .val (.int m)] h) = _
    rw [e]; rfl
  · obtain ⟨p, l, r, rfl, _⟩ := s
    obtain ⟨p', l', r', rfl, _⟩ := s'
    have hr : r' = r := hr
    subst hr
    refine ⟨Nat.le_refl _, fun n o hn e => ?_⟩
    match n, hn with
    | n + 2, _ => exact e
theorem stream_dr (ns : List Int) {c : Int} (hc : 0 < c) (hc2 : c ≤ 100) : ∃ h', F_law_stream ns 0 c [] = .ok 1 h' ∧ Strm h' := by
  obtain ⟨h', e, s, _⟩ := stream_i ns hc hc2
  refine ⟨h', ?_, s⟩
  show dyr (gCall run_law_stream [.scr ns, .val (.int 0), .val (.int c)] []) = _
  rw [e]; rfl
/-- an item of a list, drawn -/
theorem pick_dr {α : Type} {l : List α} {n : Int} (hn : n = (l.length : Int)) (h0 : l ≠ []) : Dr (T.bind (F_law_next 1 n) fun a => ixT l a) (· ∈ l) := by
  have hl : 0 < l.length := List.length_pos_iff.mpr h0
  refine Dr.bind (next_dr (by omega)) fun v hv => ?_
  obtain ⟨h1, h2⟩ := hv
  obtain ⟨k, rfl⟩ := Int.eq_ofNat_of_zero_le h1
  have hk : k < l.length := by omega
  rw [ixT_nat hk]
  exact Dr.pure (List.getElem_mem hk)
theorem version_dr : Dr (F_law_version 1) (· ∈ vers) := pick_dr (l := vers) rfl (List.cons_ne_nil _ _)
theorem alt_star : z_star ∈ alts := List.mem_append_left _ (List.mem_append_left _ (List.mem_append_left _ (List.mem_append_left _ (List.mem_singleton.mpr rfl))))
theorem alt_up {a : Str} (h : a ∈ vers) : z_u ++ a ∈ alts := List.mem_append_left _ (List.mem_append_left _ (List.mem_append_left _ (List.mem_append_right _ (List.mem_map.mpr ⟨a, h, rfl⟩))))
theorem alt_ver {a : Str} (h : a ∈ vers) : a ∈ alts := List.mem_append_left _ (List.mem_append_left _ (List.mem_append_right _ h))
theorem alt_til {a : Str} (h : a ∈ vers) : z_t ++ a ∈ alts := List.mem_append_left _ (List.mem_append_right _ (List.mem_map.mpr ⟨a, h, rfl⟩))
theorem empty_add (a : Str) : z_empty ++ a = a := by
  show (⟨z_empty.cps ++ a.cps⟩ : Str) = a
  have : z_empty.cps = #[] := rfl
  rw [this, Array.empty_append]
theorem alternative_dr : Dr (F_law_alternative 1) (· ∈ alts) := by
  unfold F_law_alternative
  refine Dr.bind (next_dr (by decide)) fun k _ => ?_
  refine Dr.ite (fun _ => Dr.pure alt_star) fun _ => ?_
  refine Dr.ite (fun _ => Dr.bind version_dr fun a ha => ?_) fun _ => ?_
  · have hl : a.length ≤ 100 := alt_len (alt_ver ha)
    rw [catS_ok (by have : z_u.length = 1 := rfl; omega)]
    exact Dr.pure (alt_up ha)
  refine Dr.ite (fun _ => Dr.bind (pick_dr (l := [z_empty, z_t]) rfl (List.cons_ne_nil _ _)) fun b hb => Dr.bind version_dr fun a ha => ?_) fun _ => ?_
  · have hl : a.length ≤ 100 := alt_len (alt_ver ha)
    rcases List.mem_cons.mp hb with rfl | hb
    · rw [catS_ok (by have : z_empty.length = 0 := rfl; omega), empty_add]
      exact Dr.pure (alt_ver ha)
    · rw [List.mem_singleton] at hb
      subst hb
      rw [catS_ok (by have : z_t.length = 1 := rfl; omega)]
      exact Dr.pure (alt_til ha)
  · exact (pick_dr (l := [z_ge1_0_0sl2_0_0, z_ge0_0_0sl1_0_1, z_ge1_1_0sl999_0_0]) rfl (List.cons_ne_nil _ _)).imp fun a ha => List.mem_append_right _ ha
theorem range_dr : Dr (F_law_range 1) (· ∈ ranges) := by
  unfold F_law_range
  refine Dr.bind (P := fun _ => True) (Dr.bind (next_dr (by decide)) fun a _ => Dr.pure trivial) fun b _ => ?_
  refine Dr.ite (fun _ => ?_) fun _ => alternative_dr.imp fun a ha => range_one ha
  rw [T.bind_assoc]
  refine Dr.bind alternative_dr fun a ha => ?_
  have la := alt_len ha
  rw [catS_ok (by have : z_sbbs.length = 4 := rfl; omega), T.pure_bind]
  refine Dr.bind alternative_dr fun b hb => ?_
  have lb := alt_len hb
  rw [catS_ok (by rw [len_add]; have : z_sbbs.length = 4 := rfl; omega)]
  exact Dr.pure (range_two ha hb)
end Q
namespace Q
open PySem PySem.Spec PyProof.Rows L2 U
/-! G4: needs, drawn. -/
theorem Strm.two {h : LH} (s : Strm h) : 2 ≤ h.length := by
  obtain ⟨p, l, r, rfl, _⟩ := s
  show 2 ≤ r.length + 1 + 1
  omega
theorem Strm.add {h : LH} (s : Strm h) (x : LH) : Strm (h ++ x) := by
  obtain ⟨p, l, r, rfl, q⟩ := s
  exact ⟨p, l, r ++ x, rfl, q⟩
theorem Strm.set {h : LH} (s : Strm h) {n : Nat} (hn : 2 ≤ n) (o : GO) : Strm (h.set n o) := by
  obtain ⟨p, l, r, rfl, q⟩ := s
  match n, hn with
  | n + 2, _ => exact ⟨p, l, r.set n o, rfl, q⟩
abbrev left_ (l : List Str) : GO := .lst (l.map fun a => SV.val (tS.enc a))
theorem ers_map {α β : Type} (f : α → β) : ∀ (l : List α) (k : Nat), (l.map f).eraseIdx k = (l.eraseIdx k).map f
  | [], _ => rfl
  | _ :: _, 0 => rfl
  | a :: l, k + 1 => congrArg (f a :: ·) (ers_map f l k)
theorem ers_perm {α : Type} : ∀ {l : List α} {k : Nat} (hk : k < l.length), (l[k] :: l.eraseIdx k).Perm l
  | a :: l, 0, _ => .refl _
  | a :: l, k + 1, h => ((List.Perm.swap a _ _).trans ((ers_perm (l := l) (k := k) (by simpa using h)).cons a))
structure NeedI (names : List Str) (found : List Dep) (left : List Str) : Prop where
  nd : (found.map (·.1) ++ left).Nodup
  sub : ∀ x ∈ found.map (·.1) ++ left, x ∈ names
  rg : ∀ d ∈ found, d.2 ∈ ranges
def bodyN (n : Nat) : Int → List Dep → T (List Dep) := fun _ found => T.bind (truL n) fun b => if b then (T.bind (T.bind (T.bind (refT n) fun _ => T.bind (T.bind (lenL n) fun a => F_law_next 1 a) fun a => popL tS n a) fun a => T.bind (F_law_range 1) fun r => T.pure (a, r)) fun d => T.bind (pushT found d) fun f => T.pure f) else T.pure found
def FrB (n : Nat) (h h' : LH) : Prop := h.length ≤ h'.length ∧ ∀ m o, 2 ≤ m → m ≠ n → h[m]? = some o → h'[m]? = some o
theorem FrB.trans {n : Nat} {a b c : LH} (x : FrB n a b) (y : FrB n b c) : FrB n a c := ⟨Nat.le_trans x.1 y.1, fun m o hm hn e => y.2 m o hm hn (x.2 m o hm hn e)⟩
theorem Fr.b {n : Nat} {a b : LH} (x : Fr a b) : FrB n a b := ⟨x.1, fun m o hm _ e => x.2 m o hm e⟩
theorem ixN_nat {n k : Nat} (h : k < n) : ixN n (k : Int) = some k := by
  unfold ixN
  rw [if_pos (by omega), if_pos (by omega), Int.toNat_natCast]
theorem okRb_nat {k : Nat} (h : k ≤ 1000000) : okRb (k : Int) = true := (okRb_eq _).mpr (by unfold okR; omega)
theorem popL_ok {α : Type} {t : Ty α} {n k : Nat} {xs : List SV} {a : α} {h : LH} (er : refT n h = .ok xs h) (hk : k ≤ 1000000) (ei : ixN xs.length (k : Int) = some k) (ea : (xs[k]?).bind (asT t) = some a) : popL t n (k : Int) h = .ok a (h.set n (.lst (xs.eraseIdx k))) := by
  have e : ∀ c : Prop, ∀ [Decidable c], c → ∀ (t : T α) (h : LH), T.guard c t h = t h := fun c _ hc t h => if_pos hc
  unfold popL
  show (refT n h).bind (fun xs h => T.guard _ _ h) = _
  rw [er, Out.bind_ok, e _ (okRb_nat hk)]
  generalize (k : Int) = z at ei ⊢
  show (T.opt (ixN xs.length z) h).bind (fun k h => orBad ((xs[k]?).bind (asT t)) fun a => .ok a (h.set n (.lst (xs.eraseIdx k)))) = _
  rw [ei]
  show orBad ((xs[k]?).bind (asT t)) _ = _
  rw [ea]
  rfl
theorem step_need {names : List Str} {n : Nat} (hn : 2 ≤ n) {t : Int} {found : List Dep} {left : List Str} {h : LH} (s : Strm h) (e : h[n]? = some (left_ left)) (I : NeedI names found left) (hl : found.length + left.length ≤ 1000) :
    ∃ found' left' h', bodyN n t found h = .ok found' h' ∧ Strm h' ∧ h'[n]? = some (left_ left') ∧ FrB n h h' ∧ NeedI names found' left' ∧ found'.length ≤ found.length + 1 ∧ found'.length + left'.length ≤ found.length + left.length := by
  have er : refT n h = .ok (left.map fun a => SV.val (tS.enc a)) h := by unfold refT; rw [e]
  cases left with
  | nil =>
    refine ⟨found, [], h, ?_, s, e, ⟨Nat.le_refl _, fun _ _ _ _ z => z⟩, I, by omega, by omega⟩
    unfold bodyN truL
    simp only [T.bind_assoc, T.pure_bind]
    show (refT n h).bind _ = _
    rw [er]; rfl
  | cons a0 l0 =>
    have hlen : (0 : Int) < ((a0 :: l0).length : Int) := by rw [List.length_cons]; omega
    obtain ⟨v, h1, e1, s1, f1, v1, v2⟩ := next_dr hlen h s
    obtain ⟨k, rfl⟩ := Int.eq_ofNat_of_zero_le v1
    have hk : k < (a0 :: l0).length := by omega
    have en1 := f1.2 n _ hn e
    have er1 : refT n h1 = .ok ((a0 :: l0).map fun a => SV.val (tS.enc a)) h1 := by unfold refT; rw [en1]
    let left' := (a0 :: l0).eraseIdx k
    let h2 := h1.set n (left_ left')
    have s2 : Strm h2 := s1.set hn _
    have hn1 : n < h1.length := (List.getElem?_eq_some_iff.mp en1).1
    have en2 : h2[n]? = some (left_ left') := List.getElem?_set_self hn1
    have ep : popL tS n (k : Int) h1 = .ok (a0 :: l0)[k] h2 := by
      have := popL_ok (t := tS) (a := (a0 :: l0)[k]) er1 (k := k) (by omega) (by rw [List.length_map]; exact ixN_nat hk) (by rw [List.getElem?_map, List.getElem?_eq_getElem hk]; rfl)
      rw [ers_map] at this
      exact this
    obtain ⟨r, h3, e3, s3, f3, r1⟩ := range_dr h2 s2
    have en3 := f3.2 n _ hn en2
    refine ⟨found ++ [((a0 :: l0)[k], r)], left', h3, ?_, s3, en3, ?_, ?_, by rw [List.length_append]; simp, ?_⟩
    · unfold bodyN truL lenL
      simp only [T.bind_assoc, T.pure_bind]
      show (refT n h).bind _ = _
      rw [er]
      show (refT n h).bind _ = _
      rw [er]
      show (refT n h).bind _ = _
      rw [er]
      show (F_law_next 1 (((a0 :: l0).map fun a => SV.val (tS.enc a)).length : Int) h).bind _ = _
      rw [List.length_map, e1]
      show (popL tS n (k : Int) h1).bind _ = _
      rw [ep]
      show (F_law_range 1 h2).bind _ = _
      rw [e3]
      show (pushT found ((a0 :: l0)[k], r) h3).bind _ = _
      rw [pushT_ok (by omega)]
      rfl
    · refine ⟨Nat.le_trans f1.1 (by have := f3.1; rw [List.length_set] at this; exact this), fun m o hm hmn z => f3.2 m o hm ?_⟩
      rw [List.getElem?_set_ne (fun w => hmn w.symm)]
      exact f1.2 m o hm z
    · have hp : ((found ++ [((a0 :: l0)[k], r)]).map (·.1) ++ left').Perm (found.map (·.1) ++ (a0 :: l0)) := by
        rw [List.map_append, List.append_assoc]
        refine List.Perm.append_left _ ?_
        exact ers_perm hk
      exact ⟨(hp.nodup_iff).mpr I.nd, fun x hx => I.sub x (hp.mem_iff.mp hx), fun d hd => by
        rcases List.mem_append.mp hd with hd | hd
        · exact I.rg d hd
        · rw [List.mem_singleton] at hd; subst hd; exact r1⟩
    · have : left'.length = (a0 :: l0).length - 1 := List.length_eraseIdx_of_lt hk
      rw [List.length_append, this]
      simp only [List.length_cons, List.length_nil]
      omega
theorem loop_need {names : List Str} {n : Nat} (hn : 2 ≤ n) : ∀ (ts : List Int) (found : List Dep) (left : List Str) (h : LH), Strm h → h[n]? = some (left_ left) → NeedI names found left → found.length + left.length ≤ 1000 →
    ∃ found' left' h', forT0 (bodyN n) ts found h = .ok found' h' ∧ Strm h' ∧ FrB n h h' ∧ NeedI names found' left' ∧ found'.length ≤ found.length + ts.length
  | [], found, left, h, s, e, I, hl => ⟨found, left, h, rfl, s, ⟨Nat.le_refl _, fun _ _ _ _ z => z⟩, I, by simp⟩
  | t :: ts, found, left, h, s, e, I, hl => by
    obtain ⟨f1, l1, h1, e1, s1, en1, fr1, I1, b1, c1⟩ := step_need (t := t) hn s e I hl
    obtain ⟨f2, l2, h2, e2, s2, fr2, I2, b2⟩ := loop_need hn ts f1 l1 h1 s1 en1 I1 (by omega)
    refine ⟨f2, l2, h2, ?_, s2, fr1.trans fr2, I2, by rw [List.length_cons]; omega⟩
    show (bodyN n t found h).bind _ = _
    rw [e1]
    exact e2
structure Needs (names : List Str) (m : Nat) (l : List Dep) : Prop where
  nd : (l.map (·.1)).Nodup
  sub : ∀ d ∈ l, d.1 ∈ names
  rg : ∀ d ∈ l, d.2 ∈ ranges
  len : l.length ≤ m
theorem needs_dr {names : List Str} (nd : names.Nodup) (hl : names.length ≤ 100) {m : Nat} (hm : m ≤ 100) : Dr (F_law_needs 1 names (m : Int)) (Needs names m) := fun h s => by
  have hn := s.two
  have s1 := s.add [left_ names]
  have e1 : (h ++ [left_ names])[h.length]? = some (left_ names) := by rw [List.getElem?_append_right (Nat.le_refl _)]; simp
  have hm1 : (0 : Int) < (m : Int) + 1 := by omega
  obtain ⟨v, h2, e2, s2, f2, v1, v2⟩ := next_dr hm1 _ s1
  obtain ⟨k, rfl⟩ := Int.eq_ofNat_of_zero_le v1
  have hk : k ≤ m := by omega
  have e3 := f2.2 _ _ hn e1
  obtain ⟨f, l, h3, e4, s4, fr4, I4, b4⟩ := loop_need (names := names) hn ((List.range k).map fun i => ((i : Nat) : Int)) [] names h2 s2 e3 ⟨nd, fun x hx => hx, fun d hd => by cases hd⟩ (by simp; omega)
  refine ⟨f, h3, ?_, s4, ?_, ?_⟩
  · unfold F_law_needs
    show (((F_law_next 1 ((m : Int) + 1) (h ++ [left_ names])).bind fun a h1 => rngT a h1).bind _) = _
    rw [e2]
    show ((rngT (k : Int) h2).bind _) = _
    rw [rngT_ok (by omega)]
    show ((forT0 (bodyN h.length) _ _ h2).bind _) = _
    rw [e4]
    rfl
  · have fb := f2.b (n := h.length) |>.trans fr4
    refine ⟨by have := fb.1; rw [List.length_append] at this; omega, fun x o hx z => ?_⟩
    have hlt := (List.getElem?_eq_some_iff.mp z).1
    exact fb.2 x o hx (by omega) (by rw [List.getElem?_append_left hlt]; exact z)
  · refine ⟨(List.nodup_append.mp I4.nd).1, fun d hd => I4.sub d.1 (List.mem_append_left _ (List.mem_map.mpr ⟨d, hd, rfl⟩)), I4.rg, ?_⟩
    rw [List.length_map, List.length_range, List.length_nil] at b4
    omega
end Q
namespace Q
open PySem PySem.Spec PyProof.Rows L2 U
/-! G5: packages and projects, drawn. -/
/-- a manifest of the drawn world -/
structure wM (m : Man) : Prop where
  n : m.1 ∈ names6
  v : m.2.1 ∈ vers
  d : Needs names6 2 m.2.2.1
  p : Needs names6 1 m.2.2.2
  nd : (m.1 :: (m.2.2.1.map (·.1) ++ m.2.2.2.map (·.1))).Nodup
structure wPk (l : List Man) : Prop where
  m : ∀ m ∈ l, wM m
  len : l.length ≤ 12
  nd : (l.map fun m => (m.1, m.2.1)).Nodup
theorem needs_ok {ns : List Str} {n : Nat} {l : List Dep} (h : Needs ns n l) (hs : ∀ x ∈ ns, x ∈ names6) : ∀ d ∈ l, okDep d := fun d hd => ⟨names_ok _ (hs _ (h.sub d hd)), ranges_ok (h.rg d hd)⟩
theorem wM.ok {m : Man} (h : wM m) : okM m := ⟨names_ok _ h.n, vers_ok _ h.v, needs_ok h.d fun _ q => q, needs_ok h.p fun _ q => q, Nat.le_trans h.d.len (by omega), Nat.le_trans h.p.len (by omega), h.nd⟩
theorem wPk.ok {l : List Man} (h : wPk l) : okPk l := ⟨fun m hm => (h.m m hm).ok, Nat.le_trans h.len (by omega), h.nd⟩
theorem Needs.weak {ns ms : List Str} {n : Nat} {l : List Dep} (h : Needs ns n l) (hs : ∀ x ∈ ns, x ∈ ms) : Needs ms n l := ⟨h.nd, fun d hd => hs _ (h.sub d hd), h.rg, h.len⟩
theorem needs_pj {l : List Dep} {n : Nat} (h : Needs names6 n l) (hn : n ≤ 6) : okPj l := ⟨needs_ok h fun _ q => q, Nat.le_trans h.len hn, h.nd⟩
def belowOk (nm : Str) (b : List Str) : Bool := decide (nm ∉ b) && decide b.Nodup && b.all (fun x => decide (x ∈ names6)) && decide (b.length ≤ 6)
theorem below_all : ((List.range 6).all fun k => belowOk (names6.getD k z_app) (slT names6 (some ((k : Int) + 1)) none) && belowOk (names6.getD k z_app) (slT names6 none (some (k : Int)) ++ slT names6 (some ((k : Int) + 1)) none)) = true := by decide +kernel
structure Below (nm : Str) (b : List Str) : Prop where
  ni : nm ∉ b
  nd : b.Nodup
  sub : ∀ x ∈ b, x ∈ names6
  len : b.length ≤ 6
theorem below_of {nm : Str} {b : List Str} (h : belowOk nm b = true) : Below nm b := by
  unfold belowOk at h
  simp only [Bool.and_eq_true, decide_eq_true_eq, List.all_eq_true] at h
  exact ⟨h.1.1.1, h.1.1.2, h.1.2, h.2⟩
theorem below_k {k : Nat} (hk : k < 6) : Below (names6[k]'hk) (slT names6 (some ((k : Int) + 1)) none) ∧ Below (names6[k]'hk) (slT names6 none (some (k : Int)) ++ slT names6 (some ((k : Int) + 1)) none) := by
  have := List.all_eq_true.mp below_all k (List.mem_range.mpr hk)
  rw [Bool.and_eq_true] at this
  have e : names6.getD k z_app = names6[k]'hk := by rw [List.getD_eq_getElem?_getD, List.getElem?_eq_getElem hk]; rfl
  rw [e] at this
  exact ⟨below_of this.1, below_of this.2⟩
theorem names_nd : names6.Nodup := by
  have : decide names6.Nodup = true := by decide +kernel
  exact of_decide_eq_true this
/-- while the versions of one name are drawn -/
def verI (nm : Str) (f0 : List Man) (j : Nat) (s : List Man × List Str) : Prop := ∃ new : List Man, s.1 = f0 ++ new ∧ (∀ m ∈ new, wM m ∧ m.1 = nm) ∧ new.map (·.2.1) = s.2 ∧ s.2.Nodup ∧ new.length ≤ j
theorem taken_ok {nm : Str} {l : List Dep} (hl : l.length ≤ 100) : T.bind (T.bind (T.pure nm) fun a => T.pure [a]) (fun a => T.bind (compM l fun d => d.1) fun b => catT a b) = T.pure (nm :: l.map (·.1)) := by
  rw [T.pure_bind, T.pure_bind, compM_ok (by omega), T.pure_bind, catT_ok (by simp; omega)]
  rfl
theorem peers_nd {nm : Str} {b : List Str} {l p : List Dep} (hb : Below nm b) (hl : Needs b 2 l) (hp : Needs (names6.filter fun x => !inX tS tS x (nm :: l.map (·.1))) 1 p) : (nm :: (l.map (·.1) ++ p.map (·.1))).Nodup := by
  have hq : ∀ x ∈ p.map (·.1), x ∉ nm :: l.map (·.1) := fun x hx => by
    obtain ⟨d, hd, rfl⟩ := List.mem_map.mp hx
    have := (List.mem_filter.mp (hp.sub d hd)).2
    rw [inX_good gdS] at this
    intro hm
    rw [decide_eq_true hm] at this
    cases this
  refine List.nodup_cons.mpr ⟨fun hm => ?_, List.nodup_append.mpr ⟨hl.nd, hp.nd, fun a ha c hc e => hq c hc (List.mem_cons_of_mem _ (e ▸ ha))⟩⟩
  rcases List.mem_append.mp hm with hm | hm
  · obtain ⟨d, hd, e⟩ := List.mem_map.mp hm
    exact hb.ni (e ▸ hl.sub d hd)
  · exact hq nm hm List.mem_cons_self
def bodyP (nm : Str) (k : Int) (b : List Str) : Int → List Man × List Str → T (List Man × List Str) := fun _ s => match s with
  | (found, vs) => T.bind (F_law_version 1) fun v => if (!inX tS tS v vs) then (T.bind (T.pure v) fun a => T.bind (pushT vs a) fun vs' => T.bind (F_law_needs 1 b (2 : Int)) fun l => T.bind (T.bind (T.bind (ixT names6 k) fun a => T.pure [a]) fun a => T.bind (compM l fun d => d.1) fun c => catT a c) fun taken => T.bind (T.pure ([] : List Dep)) fun p0 =>
      T.bind (T.bind (T.bind (F_law_next 1 (3 : Int)) fun a => T.pure (decide (a = (0 : Int)))) fun c => if c then T.bind (T.bind (compP names6 (fun x => !inX tS tS x taken) fun x => x) fun m => F_law_needs 1 m (1 : Int)) fun p => T.pure p else T.pure p0) fun p =>
      T.bind (T.bind (ixT names6 k) fun a => T.pure (a, v, l, p)) fun m => T.bind (pushT found m) fun found' => T.pure (found', vs')) else T.pure (found, vs)
theorem step_ver {k : Nat} (hk : k < 6) {b : List Str} (hb : Below (names6[k]'hk) b) {f0 : List Man} {j : Nat} (hj : j < 2) (hf : f0.length ≤ 100) {t : Int} {s : List Man × List Str} (I : verI (names6[k]'hk) f0 j s) : Dr (bodyP (names6[k]'hk) (k : Int) b t s) (verI (names6[k]'hk) f0 (j + 1)) := by
  obtain ⟨found, vs⟩ := s
  obtain ⟨new, rfl, hm, rfl, nd, hl⟩ := I
  show Dr (T.bind (F_law_version 1) _) _
  refine Dr.bind version_dr fun v hv => ?_
  rw [inX_good gdS]
  refine Dr.ite (fun hc => ?_) fun _ => Dr.pure ⟨new, rfl, hm, rfl, nd, by omega⟩
  have hn : v ∉ new.map (·.2.1) := by simpa using hc
  have hix : ixT names6 (k : Int) = T.pure (names6[k]'hk) := ixT_nat hk
  rw [T.pure_bind, pushT_ok (by rw [List.length_map]; omega), T.pure_bind]
  refine Dr.bind (needs_dr hb.nd (by have := hb.len; omega) (m := 2) (by omega)) fun l hL => ?_
  have hll := hL.len
  rw [hix, taken_ok (by omega), T.pure_bind, T.pure_bind]
  refine Dr.bind (P := fun p => Needs (names6.filter fun x => !inX tS tS x (names6[k]'hk :: l.map (·.1))) 1 p) ?_ fun p hP => ?_
  · rw [T.bind_assoc]
    refine Dr.bind (next_dr (by decide)) fun z _ => ?_
    rw [T.pure_bind]
    refine Dr.ite (fun _ => ?_) fun _ => Dr.pure ⟨by simp, by simp, by simp, by simp⟩
    rw [compP_ok (by decide), T.pure_bind, List.map_id']
    refine Dr.bind (needs_dr (m := 1) (List.Nodup.sublist (List.filter_sublist) names_nd) ?_ (by omega)) fun p hp => Dr.pure hp
    exact Nat.le_trans (List.length_filter_le _ _) (by decide)
  rw [T.pure_bind, T.pure_bind, pushT_ok (by rw [List.length_append]; omega), T.pure_bind]
  refine Dr.pure ⟨new ++ [(names6[k]'hk, v, l, p)], by simp, fun m hm' => ?_, by simp, ?_, by rw [List.length_append]; simp; omega⟩
  · rcases List.mem_append.mp hm' with h | h
    · exact hm m h
    · rw [List.mem_singleton] at h
      subst h
      exact ⟨⟨List.getElem_mem hk, hv, hL.weak hb.sub, hP.weak fun x hx => (List.mem_filter.mp hx).1, peers_nd hb hL hP⟩, rfl⟩
  · rw [List.nodup_append]
    exact ⟨nd, by simp, fun a ha c hc e => by rw [List.mem_singleton] at hc; subst hc; subst e; exact hn ha⟩
def namI (k : Nat) (f : List Man) : Prop := (∀ m ∈ f, wM m ∧ m.1 ∈ names6.take k) ∧ f.length ≤ 2 * k ∧ (f.map fun m => (m.1, m.2.1)).Nodup
theorem nam_step {k : Nat} (hk : k < 6) {f0 new : List Man} (I : namI k f0) (hm : ∀ m ∈ new, wM m ∧ m.1 = names6[k]'hk) (nd : (new.map (·.2.1)).Nodup) (hl : new.length ≤ 2) : namI (k + 1) (f0 ++ new) := by
  obtain ⟨h1, h2, h3⟩ := I
  have ht : names6.take (k + 1) = names6.take k ++ [names6[k]'hk] := List.take_succ_eq_append_getElem hk
  refine ⟨fun m h => ?_, by rw [List.length_append]; omega, ?_⟩
  · rw [ht]
    rcases List.mem_append.mp h with h | h
    · exact ⟨(h1 m h).1, List.mem_append_left _ (h1 m h).2⟩
    · exact ⟨(hm m h).1, List.mem_append_right _ (by rw [(hm m h).2]; exact List.mem_singleton.mpr rfl)⟩
  · rw [List.map_append, List.nodup_append]
    refine ⟨h3, ?_, fun a ha b hb e => ?_⟩
    · have e : (new.map fun m => (m.1, m.2.1)) = (new.map (·.2.1)).map fun v => (names6[k]'hk, v) := by
        rw [List.map_map]
        exact List.map_congr_left fun m h => by rw [(hm m h).2]; rfl
      rw [e]
      exact List.Pairwise.map _ (fun a b hne h => hne (Prod.mk.inj h).2) nd
    · obtain ⟨m, hm1, rfl⟩ := List.mem_map.mp ha
      obtain ⟨m', hm2, rfl⟩ := List.mem_map.mp hb
      have e1 := (Prod.mk.inj e).1
      have := (h1 m hm1).2
      rw [e1, (hm m' hm2).2] at this
      have nd6 := names_nd
      rw [← List.take_append_drop k names6, List.nodup_append] at nd6
      exact nd6.2.2 _ this _ (by rw [List.drop_eq_getElem_cons hk]; exact List.mem_cons_self) rfl
theorem packages_dr : Dr (F_law_packages 1) wPk := by
  unfold F_law_packages
  show Dr (T.bind (T.pure names6) _) _
  rw [T.pure_bind, T.pure_bind]
  rw [show rngT (lnI names6) = rngT ((6 : Nat) : Int) from rfl, rngT_ok (by omega), T.pure_bind]
  refine Dr.bind (P := wPk) (Dr.imp (Dr.for0 namI (s := []) ⟨by simp, by simp, by simp⟩ fun k a f ha hI => ?_) fun f hf => ⟨fun m hm => (hf.1 m hm).1, hf.2.1, hf.2.2⟩) fun f hf => Dr.pure hf
  obtain ⟨rfl, hk⟩ := rng_at ha
  rw [T.pure_bind]
  refine Dr.bind (P := fun b => Below (names6[k]'hk) b) ?_ fun b hb => ?_
  · rw [T.bind_assoc]
    refine Dr.bind (next_dr (by decide)) fun z _ => ?_
    rw [T.pure_bind]
    refine Dr.ite (fun _ => ?_) fun _ => Dr.pure (below_k hk).1
    have hs : ∀ lo hi, (slT names6 lo hi).length ≤ 6 := fun lo hi => by
      unfold slT
      rw [List.length_take, List.length_drop]
      have h6 : names6.length = 6 := rfl
      omega
    rw [catT_ok (by have h1 := hs none (some (k : Int)); have h2 := hs (some ((k : Int) + 1)) none; omega), T.pure_bind]
    exact Dr.pure (below_k hk).2
  rw [T.pure_bind, T.bind_assoc, T.bind_assoc]
  refine Dr.bind (next_dr (by decide)) fun z hz => ?_
  obtain ⟨h1, h2⟩ := hz
  obtain ⟨n, rfl⟩ := Int.eq_ofNat_of_zero_le h1
  rw [T.pure_bind, show (1 : Int) + (n : Int) = ((1 + n : Nat) : Int) by omega, rngT_ok (by omega), T.pure_bind]
  refine Dr.bind (Dr.for0 (body := bodyP (names6[k]'hk) (k : Int) b) (verI (names6[k]'hk) f) (s := (f, [])) ⟨[], by simp, by simp, rfl, by simp, by simp⟩ fun j a s ha hI => ?_) fun s hs => ?_
  · obtain ⟨rfl, hj⟩ := rng_at ha
    exact step_ver hk hb (by omega) (by have := hI; obtain ⟨_, _, _⟩ := ‹namI k f›; omega) hI
  · obtain ⟨found, vs⟩ := s
    obtain ⟨new, rfl, hm, rfl, nd, hl⟩ := hs
    refine Dr.pure (nam_step hk ‹namI k f› hm nd ?_)
    rw [List.length_map, List.length_range] at hl
    omega
theorem project_dr : Dr (F_law_project 1) (Needs names6 3) := needs_dr names_nd (by decide) (m := 3) (by omega)
end Q
namespace Q
open PySem PySem.Spec PyProof.Rows L2 U
/-! G6: the law's find, kept, resolved. -/
/-- t gives something good, without a look at the heap -/
def Pu {α : Type} (t : T α) (P : α → Prop) : Prop := ∃ a, t = T.pure a ∧ P a
section
variable {α β σ γ : Type}
theorem Pu.pure {a : α} {P : α → Prop} (p : P a) : Pu (T.pure a) P := ⟨a, rfl, p⟩
theorem Pu.bind {t : T α} {k : α → T β} {P : α → Prop} {Q : β → Prop} (p : Pu t P) (q : ∀ a, P a → Pu (k a) Q) : Pu (T.bind t k) Q := by
  obtain ⟨a, rfl, h⟩ := p
  exact q a h
theorem Pu.ite {c : Prop} [Decidable c] {t u : T α} {P : α → Prop} (p : c → Pu t P) (q : ¬ c → Pu u P) : Pu (if c then t else u) P := by
  by_cases z : c
  · rw [if_pos z]; exact p z
  · rw [if_neg z]; exact q z
def JnP (P : σ → Prop) (Q : γ → Prop) : Jn σ γ → Prop
  | .nx s => P s
  | .out c => Q c
def LpP (P : σ → Prop) (R : σ → Prop) (Q : γ → Prop) : Lp σ γ → Prop
  | .nx s => P s
  | .bk s => R s
  | .out c => Q c
theorem Pu.forA {body : α → σ → T (Lp σ γ)} (I : Nat → σ → Prop) (Q : γ → Prop) (E : σ → Prop) : ∀ (l : List α) (i : Nat) (s : σ), I i s → (∀ s, I (i + l.length) s → E s) → (∀ j a s, l[j]? = some a → I (i + j) s → Pu (body a s) (LpP (I (i + j + 1)) E Q)) → Pu (forT body l s) (JnP E Q)
  | [], i, s, h, z, _ => Pu.pure (z s h)
  | a :: l, i, s, h, z, H => Pu.bind (H 0 a s rfl h) fun r hr => by
    cases r with
    | nx s' =>
      refine Pu.forA I Q E l (i + 1) s' hr (fun s hs => z s ?_) fun j b s hb hI => ?_
      · rw [List.length_cons]; rwa [show i + 1 + l.length = i + (l.length + 1) by omega] at hs
      · have := H (j + 1) b s (by simpa using hb) (by rwa [show i + (j + 1) = i + 1 + j by omega])
        rwa [show i + (j + 1) + 1 = i + 1 + j + 1 by omega] at this
    | bk s' => exact Pu.pure hr
    | out c => exact Pu.pure hr
/-- a loop that may end early -/
theorem Pu.for_ {body : α → σ → T (Lp σ γ)} (I : Nat → σ → Prop) (Q : γ → Prop) {l : List α} {s : σ} (h : I 0 s) (H : ∀ j a s, l[j]? = some a → I j s → Pu (body a s) (LpP (I (j + 1)) (I l.length) Q)) : Pu (forT body l s) (JnP (I l.length) Q) :=
  Pu.forA I Q (I l.length) l 0 s h (fun s hs => by rwa [Nat.zero_add] at hs) fun j a s e hI => by
    rw [Nat.zero_add] at hI ⊢
    exact H j a s e hI
/-- the first that fits -/
theorem find_loop {c : α → T Bool} {c' : α → Bool} {g : α → γ} {z : γ} : ∀ {l : List α}, (∀ a ∈ l, c a = T.pure (c' a)) → T.bind (forT (fun a (_ : Unit) => T.bind (c a) fun b => if b then T.pure (Lp.out (g a)) else T.pure (Lp.nx ())) l ()) (Jn.go fun (_ : Unit) => T.pure z) = T.pure (((l.find? c').map g).getD z)
  | [], _ => rfl
  | a :: l, h => by
    have ih := find_loop (c := c) (c' := c') (g := g) (z := z) (l := l) fun b hb => h b (List.mem_cons_of_mem _ hb)
    unfold forT
    rw [h a List.mem_cons_self, T.pure_bind]
    cases e : c' a with
    | true => rw [List.find?_cons_of_pos e]; rfl
    | false =>
      rw [List.find?_cons_of_neg (by rw [e]; exact Bool.false_ne_true), ← ih]
      simp
theorem fold_loop {body : α → σ → T σ} {f : σ → α → σ} (P : σ → Prop) : ∀ {l : List α} {s : σ}, P s → (∀ a ∈ l, ∀ s, P s → body a s = T.pure (f s a) ∧ P (f s a)) → forT0 body l s = T.pure (l.foldl f s) ∧ P (l.foldl f s)
  | [], s, h, _ => ⟨rfl, h⟩
  | a :: l, s, h, H => by
    obtain ⟨e, h'⟩ := H a List.mem_cons_self s h
    obtain ⟨e2, h2⟩ := fold_loop P (l := l) h' fun b hb => H b (List.mem_cons_of_mem _ hb)
    refine ⟨?_, h2⟩
    unfold forT0
    rw [e, T.pure_bind]
    exact e2
end
def findM (ps : List Man) (n v : Str) : Option Man := ps.find? fun m => decide (m.1 = n) && decide (m.2.1 = v)
theorem law_find_ok (ps : List Man) (n v : Str) : F_law_find ps n v = T.pure (findM ps n v) := by
  unfold F_law_find
  rw [T.pure_bind]
  have := find_loop (c := fun m : Man => T.pure (decide (m.1 = n) && decide (m.2.1 = v))) (c' := fun m => decide (m.1 = n) && decide (m.2.1 = v)) (g := fun m => some m) (z := none) (l := ps) fun a _ => rfl
  simp only [T.pure_bind] at this
  rw [this]
  unfold findM
  cases ps.find? _ <;> rfl
theorem findM_of {ps : List Man} {n v : Str} {m : Man} (h : findM ps n v = some m) : m ∈ ps ∧ m.1 = n ∧ m.2.1 = v := by
  have h1 := List.find?_some h
  rw [Bool.and_eq_true] at h1
  exact ⟨List.mem_of_find?_eq_some h, of_decide_eq_true h1.1, of_decide_eq_true h1.2⟩
theorem findM_some {ps : List Man} {m : Man} (h : m ∈ ps) : (findM ps m.1 m.2.1).isSome = true := by
  unfold findM
  rw [List.find?_isSome]
  exact ⟨m, h, by rw [decide_eq_true rfl, decide_eq_true rfl]; rfl⟩
/-- what a lock keeps -/
def keptB (ps : List Man) (d : Dep) (e : Ent) : Bool := decide ((e.1, e.2.1) = d) && (fit e.2.2 e.2.1 && (findM ps e.1 e.2.2).isSome)
def keptL (ps : List Man) (lock : List Ent) (d : Dep) : Option Str := (lock.find? (keptB ps d)).map fun e => e.2.2
theorem isNE_opt {α : Type} {t : Ty α} (h : ∀ a, isND (t.enc a) = false) (o : Option α) : isNE (tO t) o = !o.isSome := by
  cases o with
  | none => rfl
  | some a => exact h a
theorem law_kept_ok {ps : List Man} {lock : List Ent} {d : Dep} (hd : d.2 ∈ ranges) (hl : ∀ e ∈ lock, (e.1, e.2.1) = d → e.2.2 ∈ vers) : F_law_kept ps lock d = T.pure (keptL ps lock d) := by
  unfold F_law_kept
  rw [T.pure_bind]
  refine (find_loop (c' := keptB ps d) (g := fun e : Ent => some e.2.2) (z := none) fun e he => ?_).trans ?_
  · unfold keptB
    rw [eqX_good gdDep]
    by_cases c : (e.1, e.2.1) = d
    · have hr : e.2.1 ∈ ranges := by have := congrArg Prod.snd c; exact (show e.2.1 = d.2 from this) ▸ hd
      rw [decide_eq_true c, if_pos rfl, fits_ok (hl e he c) hr, T.pure_bind, Bool.true_and]
      cases fit e.2.2 e.2.1 with
      | false => rfl
      | true =>
        rw [if_pos rfl, law_find_ok, T.pure_bind, isNE_opt (t := tMan) fun _ => rfl, Bool.not_not, Bool.true_and]
    · rw [decide_eq_false c, if_neg Bool.false_ne_true]; rfl
  · unfold keptL
    cases lock.find? (keptB ps d) <;> rfl
/-- the greatest candidate -/
def ltV (a b : Str) : Bool := PySem.W.dataLt ((tL tI).enc (numsL a)) ((tL tI).enc (numsL b))
def bestS (d : Dep) (b : Option Str) (m : Man) : Option Str := if decide (m.1 = d.1) && fit m.2.1 d.2 then (match b with | none => some m.2.1 | some v => if ltV v m.2.1 then some m.2.1 else some v) else b
def bestL (ps : List Man) (d : Dep) : Option Str := ps.foldl (bestS d) none
def resolvedL (ps : List Man) (lock : List Ent) (d : Dep) : Option Str := match keptL ps lock d with
  | none => bestL ps d
  | some v => some v
theorem alkLI : U.Alk tI := akI
theorem ltT_ok (a b : List Int) : ltT (tL tI) (tL tI) a b = T.pure (PySem.W.dataLt ((tL tI).enc a) ((tL tI).enc b)) := by
  unfold ltT
  refine T.guard_pos ?_ _
  have h1 : PySem.W.alike ((tL tI).enc a) ((tL tI).enc b) = true := by
    show PySem.W.alike (.list (a.map tI.enc)) (.list (b.map tI.enc)) = true
    rw [PySem.W.alike]
    exact akAll akI a b
  have h2 := ((tL tI).pl (by decide) b).2
  have h3 : (tL tI).n = 1 := rfl
  unfold cLt
  rw [h1, decide_eq_true (by omega : ((tL tI).enc b).depth ≤ 100)]
  have : notNone ((tL tI).enc a) = true := by
    first | rfl | (unfold notNone; rfl)
  rw [this]; rfl
structure isCand (ps : List Man) (d : Dep) (v : Str) : Prop where
  ex : ∃ m ∈ ps, m.1 = d.1 ∧ m.2.1 = v
  fits : fit v d.2 = true
theorem best_ok {ps : List Man} (hp : ∀ m ∈ ps, m.2.1 ∈ vers) {d : Dep} (hd : d.2 ∈ ranges) {body : Man → Option Str → T (Option Str)}
    (hb : ∀ m s, body m s = T.bind (if (decide (m.1 = d.1)) then (F_law_fits m.2.1 d.2) else T.pure false) fun b => if b then (T.bind (if (isNE (tO tS) s) then T.pure true else (T.bind (T.bind (T.opt s) fun a => F_law_numbers a) fun a => T.bind (F_law_numbers m.2.1) fun c => ltT (tL tI) (tL tI) a c)) fun b => if b then (T.bind (T.pure (some m.2.1)) fun z => T.pure z) else T.pure s) else T.pure s) :
    forT0 body ps none = T.pure (bestL ps d) ∧ ∀ v, bestL ps d = some v → isCand ps d v := by
  refine fold_loop (fun s => ∀ v, s = some v → isCand ps d v) (fun v h => by cases h) fun m hm s hs => ?_
  rw [hb]
  unfold bestS
  by_cases c : m.1 = d.1
  · rw [decide_eq_true c, if_pos rfl, fits_ok (hp m hm) hd, T.pure_bind, Bool.true_and]
    cases e : fit m.2.1 d.2 with
    | false => exact ⟨rfl, hs⟩
    | true =>
      have hc : isCand ps d m.2.1 := ⟨⟨m, hm, c, rfl⟩, e⟩
      rw [if_pos rfl]
      cases s with
      | none => exact ⟨rfl, fun v h => by cases h; exact hc⟩
      | some b =>
        have hbv : b ∈ vers := by
          obtain ⟨⟨m', h1, _, h2⟩, _⟩ := hs b rfl
          exact h2 ▸ hp m' h1
        rw [show isNE (tO tS) (some b) = false from rfl, if_neg Bool.false_ne_true, T.opt_some, T.pure_bind, nums_ok hbv, T.pure_bind, nums_ok (hp m hm), T.pure_bind, ltT_ok, T.pure_bind]
        rw [if_pos rfl]
        show (if ltV b m.2.1 = true then _ else _) = T.pure (if ltV b m.2.1 = true then some m.2.1 else some b) ∧ ∀ v, (if ltV b m.2.1 = true then some m.2.1 else some b) = some v → _
        cases hh : ltV b m.2.1 with
        | true => rw [if_pos rfl, if_pos rfl]; exact ⟨rfl, fun v h => by cases h; exact hc⟩
        | false => rw [if_neg Bool.false_ne_true, if_neg Bool.false_ne_true]; exact ⟨rfl, hs⟩
  · rw [decide_eq_false c, if_neg Bool.false_ne_true, Bool.false_and]
    exact ⟨rfl, hs⟩
theorem law_resolved_ok {ps : List Man} (hp : ∀ m ∈ ps, m.2.1 ∈ vers) {lock : List Ent} {d : Dep} (hd : d.2 ∈ ranges) (hl : ∀ e ∈ lock, (e.1, e.2.1) = d → e.2.2 ∈ vers) :
    F_law_resolved ps lock d = T.pure (resolvedL ps lock d) ∧ ∀ v, resolvedL ps lock d = some v → isCand ps d v := by
  obtain ⟨h1, h2⟩ := best_ok hp hd (body := _) fun m s => rfl
  unfold F_law_resolved resolvedL
  rw [law_kept_ok hd hl, T.pure_bind]
  cases e : keptL ps lock d with
  | none =>
    refine ⟨?_, h2⟩
    show T.bind (T.pure none) _ = _
    rw [T.pure_bind, T.pure_bind]
    exact (congrArg (fun t => T.bind t fun b => T.pure b) h1)
  | some v =>
    refine ⟨rfl, fun w hw => ?_⟩
    cases hw
    unfold keptL at e
    obtain ⟨x, hx, rfl⟩ := Option.map_eq_some_iff.mp e
    have hk := List.find?_some hx
    unfold keptB at hk
    rw [Bool.and_eq_true, Bool.and_eq_true] at hk
    have hd' := of_decide_eq_true hk.1
    obtain ⟨m, hm⟩ := Option.isSome_iff_exists.mp hk.2.2
    obtain ⟨m1, m2, m3⟩ := findM_of hm
    exact ⟨⟨m, m1, by rw [← hd']; exact m2, m3⟩, by rw [← hd']; exact hk.2.1⟩
end Q
namespace Q
open PySem PySem.Spec PyProof.Rows L2 U
/-! G7: resolving as the law does it; a lock that is drawn. -/
theorem sort_dep (l : List Dep) : sortT tDep l = T.pure (srt tDep l) := sortT_ok (sortB_tup (akCons akS (akOne akS)) (by decide) (fun a => by intro h; cases h) l)
theorem sort_ent (l : List Ent) : sortT tEnt l = T.pure (srt tEnt l) := sortT_ok (sortB_tup (akCons akS (akCons akS (akOne akS))) (by decide) (fun a => by intro h; cases h) l)
def allDeps (ps : List Man) (pj : List Dep) : List Dep := pj ++ ps.flatMap fun m => m.2.2.1
theorem flat_len {α β : Type} {f : α → List β} {k : Nat} : ∀ {l : List α}, (∀ a ∈ l, (f a).length ≤ k) → (l.flatMap f).length ≤ k * l.length
  | [], _ => by simp
  | a :: l, h => by
    have h1 := h a List.mem_cons_self
    have h2 := flat_len (f := f) (l := l) fun b hb => h b (List.mem_cons_of_mem _ hb)
    rw [List.flatMap_cons, List.length_append, List.length_cons, Nat.mul_succ]
    omega
theorem nodup_len {α : Type} [DecidableEq α] : ∀ {l m : List α}, l.Nodup → (∀ a ∈ l, a ∈ m) → l.length ≤ m.length
  | [], m, _, _ => Nat.zero_le _
  | a :: l, m, nd, h => by
    obtain ⟨na, nd⟩ := List.nodup_cons.mp nd
    have ha := h a List.mem_cons_self
    have := nodup_len (l := l) (m := m.erase a) nd fun b hb => (List.mem_erase_of_ne (fun e : b = a => na (e ▸ hb))).mpr (h b (List.mem_cons_of_mem _ hb))
    rw [List.length_erase_of_mem ha] at this
    have := List.length_pos_of_mem ha
    rw [List.length_cons]
    omega
/-- the world that is drawn -/
structure wAll (ps : List Man) (pj : List Dep) : Prop where
  ps : wPk ps
  pj : Needs names6 3 pj
theorem wAll.deps {ps : List Man} {pj : List Dep} (h : wAll ps pj) : ∀ d ∈ allDeps ps pj, d.1 ∈ names6 ∧ d.2 ∈ ranges := fun d hd => by
  rcases List.mem_append.mp hd with hd | hd
  · exact ⟨h.pj.sub d hd, h.pj.rg d hd⟩
  · obtain ⟨m, hm, hd⟩ := List.mem_flatMap.mp hd
    exact ⟨(h.ps.m m hm).d.sub d hd, (h.ps.m m hm).d.rg d hd⟩
theorem wAll.len {ps : List Man} {pj : List Dep} (h : wAll ps pj) : (allDeps ps pj).length ≤ 27 := by
  have h1 := h.pj.len
  have h2 := flat_len (f := fun m : Man => m.2.2.1) (k := 2) fun m hm => (h.ps.m m hm).d.len
  have h3 := h.ps.len
  unfold allDeps
  rw [List.length_append]
  omega
structure entI (ps : List Man) (pj : List Dep) (f : List Ent) : Prop where
  nd : (f.map fun e => (e.1, e.2.1)).Nodup
  sub : ∀ e ∈ f, (e.1, e.2.1) ∈ allDeps ps pj ∧ isCand ps (e.1, e.2.1) e.2.2
theorem entI.len {ps : List Man} {pj : List Dep} {f : List Ent} (h : entI ps pj f) (w : wAll ps pj) : f.length ≤ 27 := by
  have := nodup_len h.nd fun a ha => by
    obtain ⟨e, he, rfl⟩ := List.mem_map.mp ha
    exact (h.sub e he).1
  rw [List.length_map] at this
  have := w.len
  omega
structure resI (ps : List Man) (pj : List Dep) (s : List Dep × List Ent) : Prop where
  e : entI ps pj s.2
  w : ∀ d ∈ s.1, d ∈ allDeps ps pj
  l : s.1.length ≤ 3 + 2 * s.2.length
theorem law_resolve_pu {ps : List Man} {pj : List Dep} (w : wAll ps pj) {lock : List Ent} (hl : ∀ e ∈ lock, e.2.2 ∈ vers ∨ e.2.1 ∉ ranges) :
    Pu (F_law_resolve ps pj lock) (fun d => (∃ n : Dep, d = tDep.enc n) ∨ ∃ f, entI ps pj f ∧ d = (tL tEnt).enc (srt tEnt f)) := by
  have hv : ∀ m ∈ ps, m.2.1 ∈ vers := fun m hm => (w.ps.m m hm).v
  unfold F_law_resolve
  rw [sort_dep, T.pure_bind, T.pure_bind, show rngT (400 : Int) = rngT ((400 : Nat) : Int) from rfl, rngT_ok (by omega), T.pure_bind]
  refine Pu.bind (Pu.for_ (fun _ s => resI ps pj s) (fun d : D => ∃ n : Dep, d = tDep.enc n) (s := (srt tDep pj, [])) ⟨⟨by simp, by simp⟩, fun d hd => List.mem_append_left _ (mem_srt.mp hd), by have := w.pj.len; rw [srt_len]; simp; omega⟩ fun j a s ha hI => ?_) fun r hr => ?_
  · obtain ⟨waiting, found⟩ := s
    obtain ⟨rfl, _⟩ := rng_at ha
    have hfl := hI.e.len w
    have hwl := hI.l
    simp only [] at hfl hwl
    refine Pu.ite (fun hc => ?_) fun _ => Pu.pure hI
    have hj : j < waiting.length := by have := of_decide_eq_true hc; unfold lnI at this; omega
    rw [ixT_nat hj, T.pure_bind]
    have hd := hI.w _ (List.getElem_mem hj)
    obtain ⟨d1, d2⟩ := w.deps _ hd
    rw [compM_ok (by omega), T.pure_bind, T.pure_bind, inX_good gdDep]
    refine Pu.ite (fun hn => ?_) fun _ => Pu.pure hI
    have hn : waiting[j] ∉ found.map fun e => (e.1, e.2.1) := by simpa using hn
    obtain ⟨er, hr⟩ := law_resolved_ok hv (lock := lock) d2 fun e he hq => by
      rcases hl e he with h | h
      · exact h
      · exact absurd (by have := congrArg Prod.snd hq; exact (show e.2.1 = waiting[j].2 from this) ▸ d2) h
    rw [er, T.pure_bind]
    cases ev : resolvedL ps lock waiting[j] with
    | none => exact Pu.pure ⟨_, rfl⟩
    | some v =>
      have hcd := hr v ev
      obtain ⟨⟨m, m1, m2, m3⟩, hfit⟩ := hcd
      have hfs := findM_some m1
      rw [m2, m3] at hfs
      obtain ⟨m', hm'⟩ := Option.isSome_iff_exists.mp hfs
      obtain ⟨q1, q2, q3⟩ := findM_of hm'
      have hd2 := (w.ps.m m' q1).d.len
      rw [onN_some, T.pure_bind, pushT_ok (by omega), T.pure_bind, law_find_ok, hm']
      simp only [T.pure_bind, T.opt_some]
      rw [sort_dep, T.pure_bind, catT_ok (by rw [srt_len]; omega), T.pure_bind]
      refine Pu.pure ⟨⟨?_, fun e he => ?_⟩, fun d hd => ?_, ?_⟩
      · rw [List.map_append, List.nodup_append]
        exact ⟨hI.e.nd, by simp, fun a ha b hb e => by
          rw [List.map_singleton, List.mem_singleton] at hb
          subst hb; subst e
          exact hn ha⟩
      · rcases List.mem_append.mp he with he | he
        · exact hI.e.sub e he
        · rw [List.mem_singleton] at he
          subst he
          exact ⟨hd, ⟨⟨m, m1, m2, m3⟩, hfit⟩⟩
      · rcases List.mem_append.mp hd with hd | hd
        · exact hI.w d hd
        · exact List.mem_append_right _ (List.mem_flatMap.mpr ⟨m', q1, mem_srt.mp hd⟩)
      · rw [List.length_append, List.length_append, srt_len]
        simp only [List.length_singleton]
        omega
  · cases r with
    | nx s =>
      obtain ⟨waiting, found⟩ := s
      show Pu (T.bind (sortT tEnt found) _) _
      rw [sort_ent, T.pure_bind]
      exact Pu.pure (.inr ⟨found, hr.e, rfl⟩)
    | out c => exact Pu.pure (.inl hr)
theorem isiS_ent (l : List Ent) : T.opt (isiS "tuple" (v tD ((tL tEnt).enc l))) = T.pure false := rfl
theorem isiS_dep (d : Dep) : T.opt (isiS "tuple" (v tD (tDep.enc d))) = T.pure true := rfl
theorem dec_ents (l : List Ent) : (tL tEnt).dec ((tL tEnt).enc l) = some l := by
  show decAll tEnt (l.map tEnt.enc) = some l
  induction l with
  | nil => rfl
  | cons a l ih => rw [List.map_cons]; unfold decAll; rw [ih]; rfl
/-- an entry of a drawn lock -/
structure lkI (ps : List Man) (l : List Ent) : Prop where
  e : ∀ e ∈ l, okE e
  v : ∀ e ∈ l, e.2.2 ∈ vers ∨ e.2.1 ∉ ranges
  len : l.length ≤ 28
  nd : (l.map fun e => (e.1, e.2.1)).Nodup
def lkS (f : List Ent) (ps : List Man) (j : Nat) (l : List Ent) : Prop := (l.map fun e => (e.1, e.2.1)).Sublist ((f.take j).map fun e => (e.1, e.2.1)) ∧ ∀ e ∈ l, isCand ps (e.1, e.2.1) e.2.2
theorem odd_range : z_u9_9_9 ∉ ranges := by
  have : (ranges.all fun w => decide (w ≠ z_u9_9_9)) = true := by decide +kernel
  intro h
  exact of_decide_eq_true (List.all_eq_true.mp this _ h) rfl
theorem odd_ok : okE (z_app, z_u9_9_9, z_9_9_9) := by
  refine ⟨names_ok _ List.mem_cons_self, ?_, ?_⟩
  · exact (hi_F_is_range _).is (by decide +kernel)
  · exact (hi_F_is_version _).is (by decide +kernel)
theorem some_lock_dr {ps : List Man} {pj : List Dep} (w : wAll ps pj) : Dr (F_law_some_lock 1 ps pj) (lkI ps) := by
  have hv : ∀ m ∈ ps, m.2.1 ∈ vers := fun m hm => (w.ps.m m hm).v
  unfold F_law_some_lock
  obtain ⟨d, ed, hd⟩ := law_resolve_pu w (lock := []) (by simp)
  rw [ed, T.pure_bind]
  rcases hd with ⟨n, rfl⟩ | ⟨f, hf, rfl⟩
  · rw [isiS_dep, T.pure_bind]
    exact Dr.pure ⟨by simp, by simp, by simp, by simp⟩
  · rw [isiS_ent, T.pure_bind, if_neg Bool.false_ne_true, T.pure_bind, cast_ok (dec_ents _), T.pure_bind]
    have hfl : (srt tEnt f).length ≤ 27 := by rw [srt_len]; exact hf.len w
    have hsub : ∀ e ∈ srt tEnt f, e.1 ∈ names6 ∧ e.2.1 ∈ ranges ∧ isCand ps (e.1, e.2.1) e.2.2 := fun e he => by
      obtain ⟨h1, h2⟩ := hf.sub e (mem_srt.mp he)
      obtain ⟨h3, h4⟩ := w.deps _ h1
      exact ⟨h3, h4, h2⟩
    have hnd : ((srt tEnt f).map fun e => (e.1, e.2.1)).Nodup := (((srt_perm tEnt f).map _).nodup_iff).mpr hf.nd
    refine Dr.bind (P := lkS (srt tEnt f) ps (srt tEnt f).length) (Dr.for0 (lkS (srt tEnt f) ps) (s := []) ⟨by simp, by simp⟩ fun j a l ha hI => ?_) fun l hl => ?_
    · have hj : j < (srt tEnt f).length := (List.getElem?_eq_some_iff.mp ha).1
      have hae : (srt tEnt f)[j] = a := (List.getElem?_eq_some_iff.mp ha).2
      have htk : (srt tEnt f).take (j + 1) = (srt tEnt f).take j ++ [a] := by rw [List.take_succ_eq_append_getElem hj, hae]
      have hll : l.length ≤ 27 := by
        have := hI.1.length_le
        rw [List.length_map, List.length_map, List.length_take] at this
        omega
      rw [T.bind_assoc]
      refine Dr.bind (next_dr (by decide)) fun z _ => ?_
      rw [T.pure_bind]
      refine Dr.ite (fun _ => ?_) fun _ => Dr.pure ⟨hI.1.trans (by rw [htk, List.map_append]; exact List.sublist_append_left _ _), hI.2⟩
      obtain ⟨n1, r1, c1⟩ := hsub a (hae ▸ List.getElem_mem hj)
      have hpl := w.ps.len
      have hot : compT ps (fun m : Man => if decide (m.1 = a.1) then F_law_fits m.2.1 a.2.1 else T.pure false) (fun m : Man => T.pure m.2.1) = T.pure ((ps.filter fun m => decide (m.1 = a.1) && fit m.2.1 a.2.1).map fun m => m.2.1) :=
        compT_ok (by omega) (fun m hm => by
          by_cases c : m.1 = a.1
          · rw [decide_eq_true c, if_pos rfl, fits_ok (hv m hm) r1, Bool.true_and]
          · rw [decide_eq_false c, if_neg Bool.false_ne_true]; rfl) (fun _ _ _ => rfl)
      rw [hot, T.pure_bind]
      have hne : (ps.filter fun m => decide (m.1 = a.1) && fit m.2.1 a.2.1).map (fun m => m.2.1) ≠ [] := by
        obtain ⟨⟨m, m1, m2, m3⟩, hfit⟩ := c1
        have : m ∈ ps.filter fun m => decide (m.1 = a.1) && fit m.2.1 a.2.1 := List.mem_filter.mpr ⟨m1, by rw [decide_eq_true (show m.1 = a.1 from m2), m3]; exact hfit⟩
        exact List.ne_nil_of_mem (List.mem_map.mpr ⟨m, this, rfl⟩)
      rw [T.bind_assoc]
      refine Dr.bind (pick_dr rfl hne) fun x hx => ?_
      rw [T.pure_bind, pushT_ok (by omega), T.pure_bind]
      obtain ⟨m, hm, rfl⟩ := List.mem_map.mp hx
      obtain ⟨hm1, hm2⟩ := List.mem_filter.mp hm
      rw [Bool.and_eq_true] at hm2
      refine Dr.pure ⟨?_, fun e he => ?_⟩
      · rw [htk, List.map_append, List.map_append]
        exact List.Sublist.append hI.1 (List.Sublist.refl _)
      · rcases List.mem_append.mp he with he | he
        · exact hI.2 e he
        · rw [List.mem_singleton] at he
          subst he
          exact ⟨⟨m, hm1, of_decide_eq_true hm2.1, rfl⟩, hm2.2⟩
    · rw [lkS, List.take_length] at hl
      have hlen : l.length ≤ 27 := by
        have := hl.1.length_le
        rw [List.length_map, List.length_map] at this
        omega
      have hin : ∀ e ∈ l, e.1 ∈ names6 ∧ e.2.1 ∈ ranges := fun e he => by
        have := hl.1.subset (List.mem_map.mpr ⟨e, he, rfl⟩)
        obtain ⟨e', he', q⟩ := List.mem_map.mp this
        have h1 := hsub e' he'
        have q1 := (Prod.mk.inj q).1
        have q2 := (Prod.mk.inj q).2
        exact ⟨q1 ▸ h1.1, q2 ▸ h1.2.1⟩
      have hver : ∀ e ∈ l, e.2.2 ∈ vers := fun e he => by
        obtain ⟨⟨m, m1, _, m3⟩, _⟩ := hl.2 e he
        exact m3 ▸ hv m m1
      have base : lkI ps l := ⟨fun e he => ⟨names_ok _ (hin e he).1, ranges_ok (hin e he).2, vers_ok _ (hver e he)⟩, fun e he => .inl (hver e he), by omega, hnd.sublist hl.1⟩
      refine Dr.bind (P := lkI ps) ?_ fun l' hl' => Dr.pure hl'
      rw [T.bind_assoc]
      refine Dr.bind (next_dr (by decide)) fun z _ => ?_
      rw [T.pure_bind]
      refine Dr.ite (fun _ => ?_) fun _ => Dr.pure base
      rw [catT_ok (by simp; omega), T.pure_bind]
      refine Dr.pure ⟨fun e he => ?_, fun e he => ?_, by rw [List.length_append]; simp; omega, ?_⟩
      · rcases List.mem_append.mp he with he | he
        · exact base.e e he
        · rw [List.mem_singleton] at he; subst he; exact odd_ok
      · rcases List.mem_append.mp he with he | he
        · exact base.v e he
        · rw [List.mem_singleton] at he; subst he; exact .inr odd_range
      · rw [List.map_append, List.nodup_append]
        refine ⟨base.nd, by simp, fun a ha b hb e => ?_⟩
        rw [List.map_singleton, List.mem_singleton] at hb
        subst hb
        obtain ⟨e', he', q⟩ := List.mem_map.mp ha
        have q2 : e'.2.1 = z_u9_9_9 := (Prod.mk.inj (q.trans e)).2
        exact odd_range (q2 ▸ (hin e' he').2)
end Q
namespace Q
open PySem PySem.Spec PyProof.Rows L2 U
/-! K03P: the law's own text over data. -/
theorem pick_bind {α β : Type} {l : List α} {n : Int} {k : α → T β} {Q : β → Prop} (hn : n = (l.length : Int)) (h0 : l ≠ []) (H : ∀ x ∈ l, Dr (k x) Q) : Dr (T.bind (F_law_next 1 n) fun a => T.bind (ixT l a) k) Q := by
  have := Dr.bind (pick_dr hn h0) H
  rwa [T.bind_assoc] at this
theorem Dr.puB {α β : Type} {t : T α} {a : α} {k : α → T β} {Q : β → Prop} (e : t = T.pure a) (H : Dr (k a) Q) : Dr (T.bind t k) Q := by rw [e]; exact H
def sevenT : T (List Dep) := T.bind (rngT (7 : Int)) fun l => compT l (fun k => (T.pure true)) (fun k => (T.bind (ixS z_abcdefg k) fun a => (T.pure (a, z_star))))
def seven : List Dep := got [] (sevenT [])
abbrev tMany : Ty (Str × Str × List Dep × Unit) := tT (consT tS (consT tS (consT tDeps (oneT (tT nilT)))))
def manyT : T (List (Str × Str × List Dep × Unit)) := (T.bind (rngT (17 : Int)) fun l297 => compT l297 (fun k288 => (T.pure true)) (fun k288 => (T.bind (strT k288) fun a291 => T.bind (catS z_1_0_ a291) fun a296 => (T.pure (z_p, a296, (slT seven none (some (6 : Int))), ())))))
def many := got [] (manyT [])
def longT : T (List Ent) := (T.bind (rngT (103 : Int)) fun l346 => compT l346 (fun k339 => (T.pure true)) (fun k339 => (T.bind (strT k339) fun a342 => T.bind (catS z_1_0_ a342) fun a345 => (T.pure (z_a, a345, z_1_0_0)))))
def long := got [] (longT [])
theorem seven_ok : sevenT = T.pure seven := got_of (HI.bind (HI.rngT _) fun l => HI.compT (fun _ => HI.pure _) fun k => HI.bind (HI.ixS _ _) fun _ => HI.pure _) (by decide +kernel)
theorem many_ok : manyT = T.pure many := got_of (HI.bind (HI.rngT _) fun l => HI.compT (fun _ => HI.pure _) fun k => HI.bind (HI.strT _) fun _ => HI.bind (HI.catS _ _) fun _ => HI.pure _) (by decide +kernel)
theorem long_ok : longT = T.pure long := got_of (HI.bind (HI.rngT _) fun l => HI.compT (fun _ => HI.pure _) fun k => HI.bind (HI.strT _) fun _ => HI.bind (HI.catS _ _) fun _ => HI.pure _) (by decide +kernel)
def kindB (c w : Str) (d : D) : Bool := chk (F_law_kind c d []) fun b => decide (b = w)
theorem kind_of {c w : Str} {d : D} (h : kindB c w d = true) : F_law_kind c d = T.pure w := (hi_F_law_kind c d).is h
theorem kinds_of {c w : Str} {l : List D} (h : l.all (kindB c w) = true) : ∀ d ∈ l, F_law_kind c d = T.pure w := fun d hd => kind_of (List.all_eq_true.mp h d hd)
/-! ### the drawn things -/
def namesD : List D := [(tS.enc z_empty), (tS.enc z_A), (tS.enc z_asb), (tS.enc z_1a), (tS.enc z_ma), (tS.enc z_abcdefghijklm), (tS.enc z_ax5fb), (tN.enc ()), (tI.enc (7 : Int)), (tS.enc z_a_b)]
def needsD : List D := [((tT (oneT tS)).enc z_a), (tEnt.enc (z_a, z_star, z_star)), ((tL tS).enc ([z_a, z_star] : List Str)), (tDep.enc (z_a, z_x)), ((tT (consT tS (oneT tN))).enc (z_a, ())), (tS.enc z_astar), (tN.enc ())] ++ namesD.map fun n => (tT (consT tD (oneT tS))).enc (n, z_star)
def partsD : List D := [(tDeps.enc seven), ((tL tDep).enc ([(z_a, z_star)] : List (Str × Str))), (tN.enc ()), ((tT (consT tDep (oneT tDep))).enc ((z_a, z_star), (z_a, z_1_0_0)))] ++ needsD.map fun n => (tT (oneT tD)).enc n
def mansD : List D := namesD.map (fun n => (tT (consT tD (consT tS (consT (tT nilT) (oneT (tT nilT)))))).enc (n, z_1_0_0, (), ())) ++ partsD.map (fun p => (tT (consT tS (consT tS (consT tD (oneT (tT nilT)))))).enc (z_a1, z_1_0_0, p, ())) ++ partsD.map (fun p => (tT (consT tS (consT tS (consT (tT nilT) (oneT tD))))).enc (z_a1, z_1_0_0, (), p)) ++
  [((tT (consT tS (consT tS (consT (tT nilT) (oneT (tT nilT)))))).enc (z_a1, z_1_0, (), ())), ((tT (consT tS (consT tS (oneT (tT nilT))))).enc (z_a1, z_1_0_0, ())), ((tT (consT tS (consT tS (consT (tT (oneT tDep)) (oneT (tT nilT)))))).enc (z_b, z_1_0_0, (z_b, z_star), ())), ((tT (consT tS (consT tS (consT (tT nilT) (oneT (tT (oneT tDep))))))).enc (z_b, z_1_0_0, (), (z_b, z_star))), ((tT (consT tS (consT tS (consT (tT (oneT tDep)) (oneT (tT (oneT tDep))))))).enc (z_b, z_1_0_0, (z_c, z_star), (z_c, z_u1_0_0))),
   ((tL tD).enc ([(tS.enc z_b), (tS.enc z_1_0_0), ((tT nilT).enc ()), ((tT nilT).enc ())] : List D)), (tN.enc ()), ((tT (consT tS (consT tS (consT (tT nilT) (consT (tT nilT) (oneT (tT nilT))))))).enc (z_b, z_1_0_0, (), (), ()))]
def needE (n : D) : T D := T.bind (T.bind (T.opt (isiS "tuple" ((v tD) n))) fun b => if b then (T.bind (lenD n) fun a => T.pure (decide (a = (2 : Int)))) else T.pure false) fun b => if b then (addD n ((tT (oneT tS)).enc z_1_0_0)) else (T.pure (tDep.enc (z_a, z_star)))
theorem hi_needE (n : D) : HI (needE n) := HI.bind (HI.bind (HI.opt _) fun _ => HI.ite (HI.bind (HI.lenD _) fun _ => HI.pure _) (HI.pure _)) fun _ => HI.ite (HI.addD _ _) (HI.pure _)
def needV (n : D) : D := got .none (needE n [])
theorem needE_all : needsD.all (fun n => chk (needE n []) fun _ => true) = true := by decide +kernel
theorem needE_ok {n : D} (h : n ∈ needsD) : needE n = T.pure (needV n) := got_of (hi_needE n) (List.all_eq_true.mp needE_all n h)
def entsD : List D := needsD.map needV ++ [(tEnt.enc (z_a, z_star, z_1_0)), (tEnt.enc (z_a, z_star, z_u1_0_0)), ((tL tS).enc ([z_a, z_star, z_1_0_0] : List Str))]
theorem mans_bad : ∀ m ∈ mansD, F_law_kind z_packages ((tT (oneT tD)).enc m) = T.pure z_packages := fun m hm => kinds_of (l := mansD.map fun m => (tT (oneT tD)).enc m) (by decide +kernel) _ (List.mem_map.mpr ⟨m, hm, rfl⟩)
theorem parts_bad : ∀ p ∈ partsD, F_law_kind z_project p = T.pure z_project := kinds_of (by decide +kernel)
theorem ents_bad : ∀ e ∈ entsD, F_law_kind z_lock ((tT (oneT tD)).enc e) = T.pure z_lock := fun m hm => kinds_of (l := entsD.map fun m => (tT (oneT tD)).enc m) (by decide +kernel) _ (List.mem_map.mpr ⟨m, hm, rfl⟩)
/-! ### good ones, and lists -/
theorem sub_pk : exSub exRows (Str.ofString "BadPackages") (Str.ofString "BadPackages") = some true ∧ exSub exRows (Str.ofString "BadPackages") (Str.ofString "ShelfError") = some true := by decide +kernel
theorem sub_pj : exSub exRows (Str.ofString "BadProject") (Str.ofString "BadPackages") = some false ∧ exSub exRows (Str.ofString "BadProject") (Str.ofString "BadProject") = some true ∧ exSub exRows (Str.ofString "BadProject") (Str.ofString "ShelfError") = some true := by decide +kernel
theorem sub_lk : exSub exRows (Str.ofString "BadLock") (Str.ofString "BadPackages") = some false ∧ exSub exRows (Str.ofString "BadLock") (Str.ofString "BadProject") = some false ∧ exSub exRows (Str.ofString "BadLock") (Str.ofString "BadLock") = some true ∧ exSub exRows (Str.ofString "BadLock") (Str.ofString "ShelfError") = some true := by decide +kernel
theorem ne1 : decide (z_project = z_packages) = false := by decide +kernel
theorem ne2 : decide (z_lock = z_packages) = false := by decide +kernel
theorem ne3 : decide (z_lock = z_project) = false := by decide +kernel
theorem kind_pk_ok {d : D} (h : F_check_packages d = T.pure ()) : F_law_kind z_packages d = T.pure z_done := by
  unfold F_law_kind
  rw [decide_eq_true rfl, if_pos rfl, h]
  rfl
theorem kind_pj_ok {d : D} (h : F_check_project d = T.pure ()) : F_law_kind z_project d = T.pure z_done := by
  unfold F_law_kind
  rw [ne1, if_neg Bool.false_ne_true, decide_eq_true rfl, if_pos rfl, h]
  rfl
theorem kind_lk_ok {d : D} (h : F_check_lock d = T.pure ()) : F_law_kind z_lock d = T.pure z_done := by
  unfold F_law_kind
  rw [ne2, if_neg Bool.false_ne_true, ne3, if_neg Bool.false_ne_true, h]
  rfl
theorem kind_pk_bad {d : D} (h : F_check_packages d = T.raise ⟨"BadPackages", []⟩) : F_law_kind z_packages d = T.pure z_packages := by
  unfold F_law_kind
  rw [decide_eq_true rfl, if_pos rfl, h, T.raise_bind, tryT_raise]
  show T.bind (hdT (exSub exRows (Str.ofString "BadPackages") (Str.ofString "BadPackages")) _ _) _ = _
  rw [sub_pk.1, hdT_t]
  unfold isET
  show T.bind (T.calm (T.bind (T.bind (T.bind (T.guard _ (T.opt (exSub exRows (Str.ofString "BadPackages") (Str.ofString "ShelfError")))) _) _) _)) _ = _
  rw [sub_pk.2]
  rfl
theorem kind_pj_bad {d : D} (h : F_check_project d = T.raise ⟨"BadProject", []⟩) : F_law_kind z_project d = T.pure z_project := by
  unfold F_law_kind
  rw [ne1, if_neg Bool.false_ne_true, decide_eq_true rfl, if_pos rfl, h, T.raise_bind, tryT_raise]
  show T.bind (hdT (exSub exRows (Str.ofString "BadProject") (Str.ofString "BadPackages")) _ (hdT (exSub exRows (Str.ofString "BadProject") (Str.ofString "BadProject")) _ _)) _ = _
  rw [sub_pj.1, hdT_f, sub_pj.2.1, hdT_t]
  unfold isET
  show T.bind (T.calm (T.bind (T.bind (T.bind (T.guard _ (T.opt (exSub exRows (Str.ofString "BadProject") (Str.ofString "ShelfError")))) _) _) _)) _ = _
  rw [sub_pj.2.2]
  rfl
theorem kind_lk_bad {d : D} (h : F_check_lock d = T.raise ⟨"BadLock", []⟩) : F_law_kind z_lock d = T.pure z_lock := by
  unfold F_law_kind
  rw [ne2, if_neg Bool.false_ne_true, ne3, if_neg Bool.false_ne_true, h, T.raise_bind, tryT_raise]
  show T.bind (hdT (exSub exRows (Str.ofString "BadLock") (Str.ofString "BadPackages")) _ (hdT (exSub exRows (Str.ofString "BadLock") (Str.ofString "BadProject")) _ (hdT (exSub exRows (Str.ofString "BadLock") (Str.ofString "BadLock")) _ _))) _ = _
  rw [sub_lk.1, hdT_f, sub_lk.2.1, hdT_f, sub_lk.2.2.1, hdT_t]
  unfold isET
  show T.bind (T.calm (T.bind (T.bind (T.bind (T.guard _ (T.opt (exSub exRows (Str.ofString "BadLock") (Str.ofString "ShelfError")))) _) _) _)) _ = _
  rw [sub_lk.2.2.2]
  rfl
theorem lst_pk (l : List D) : F_check_packages ((tL tD).enc l) = T.raise ⟨"BadPackages", []⟩ := rfl
theorem lst_pj (l : List D) : F_check_project ((tL tD).enc l) = T.raise ⟨"BadProject", []⟩ := rfl
theorem lst_lk (l : List D) : F_check_lock ((tL tD).enc l) = T.raise ⟨"BadLock", []⟩ := rfl
theorem non_pk : F_check_packages (tN.enc ()) = T.raise ⟨"BadPackages", []⟩ := rfl
theorem non_pj : F_check_project (tN.enc ()) = T.raise ⟨"BadProject", []⟩ := rfl
theorem non_lk : F_check_lock (tN.enc ()) = T.raise ⟨"BadLock", []⟩ := rfl
theorem lkI.ok {ps : List Man} {l : List Ent} (h : lkI ps l) : okLk l := ⟨h.e, Nat.le_trans h.len (by omega), h.nd⟩
/-! ### find_package -/
theorem find_package_ok (ps : List Man) (n v : Str) : F_find_package ps n v = T.pure (findM ps n v) := by
  unfold F_find_package
  rw [T.pure_bind]
  refine (find_loop (c := fun m : Man => T.pure (eqX tDep tDep (m.1, m.2.1) (n, v))) (c' := fun m => decide (m.1 = n) && decide (m.2.1 = v)) (g := fun m => some m) (z := none) (l := ps) fun a _ => ?_).trans ?_
  · rw [eqX_good gdDep, ← Bool.decide_and]
    congr 1
    exact decide_eq_decide.mpr ⟨fun e => ⟨(Prod.mk.inj e).1, (Prod.mk.inj e).2⟩, fun e => by rw [e.1, e.2]⟩
  · unfold findM
    cases ps.find? _ <;> rfl
theorem findM_self {ps : List Man} (w : wPk ps) {m : Man} (h : m ∈ ps) : findM ps m.1 m.2.1 = some m := by
  obtain ⟨m', hm⟩ := Option.isSome_iff_exists.mp (findM_some h)
  obtain ⟨q1, q2, q3⟩ := findM_of hm
  have nd := w.nd
  have : m' = m := by
    have hp : ∀ {l : List Man}, (l.map fun m => (m.1, m.2.1)).Nodup → ∀ a ∈ l, ∀ b ∈ l, (a.1, a.2.1) = (b.1, b.2.1) → a = b := by
      intro l
      induction l with
      | nil => intro _ a ha; cases ha
      | cons c l ih =>
        intro nd a ha b hb e
        rw [List.map_cons, List.nodup_cons] at nd
        rcases List.mem_cons.mp ha with rfl | ha1
        · rcases List.mem_cons.mp hb with rfl | hb1
          · rfl
          · exact absurd (List.mem_map.mpr ⟨b, hb1, e.symm⟩) nd.1
        · rcases List.mem_cons.mp hb with rfl | hb1
          · exact absurd (show (b.1, b.2.1) ∈ l.map fun m => (m.1, m.2.1) from List.mem_map.mpr ⟨a, ha1, e⟩) nd.1
          · exact ih nd.2 a ha1 b hb1 e
    exact hp nd m' q1 m h (by rw [q2, q3])
  rw [hm, this]
theorem same_ok {d : D} (h : okS 7 d) : F_law_same d d = T.pure true := funext fun hh => by
  show dy tB (gPure (run_law_same 8) [.val d, .val d] hh) = _
  rw [same_eq rfl h hh]
  rfl
theorem okS_deps {l : List Dep} (hl : l.length ≤ 1000) : okS 2 (tDeps.enc l) := by
  refine ⟨by rw [List.length_map]; omega, fun d hd => ?_⟩
  obtain ⟨x, _, rfl⟩ := List.mem_map.mp hd
  refine ⟨by show ((2 : Nat) : Int) < 2 ^ 62; decide, fun e he => ?_⟩
  have he : e ∈ [PyData.str x.1, PyData.str x.2] := he
  simp only [List.mem_cons, List.not_mem_nil, or_false] at he
  rcases he with rfl | rfl <;> trivial
theorem okS_up : ∀ {n : Nat} {d : D}, okS n d → okS (n + 1) d
  | 0, .none, _ => trivial
  | 0, .bool _, _ => trivial
  | 0, .int _, _ => trivial
  | 0, .str _, _ => trivial
  | _ + 1, .none, _ => trivial
  | _ + 1, .bool _, _ => trivial
  | _ + 1, .int _, _ => trivial
  | _ + 1, .str _, _ => trivial
  | n + 1, .list l, ⟨h, q⟩ => ⟨h, fun d hd => okS_up (q d hd)⟩
  | n + 1, .tuple l, ⟨h, q⟩ => ⟨h, fun d hd => okS_up (q d hd)⟩
theorem okS_man {m : Man} (h : wM m) : okS 7 (tMan.enc m) := by
  have h1 := okS_up (okS_up (okS_up (okS_up (okS_deps (l := m.2.2.1) (by have := h.d.len; omega)))))
  have h2 := okS_up (okS_up (okS_up (okS_up (okS_deps (l := m.2.2.2) (by have := h.p.len; omega)))))
  refine ⟨by show ((4 : Nat) : Int) < 2 ^ 62; decide, fun e he => ?_⟩
  have he : e ∈ [PyData.str m.1, PyData.str m.2.1, tDeps.enc m.2.2.1, tDeps.enc m.2.2.2] := he
  simp only [List.mem_cons, List.not_mem_nil, or_false] at he
  rcases he with rfl | rfl | rfl | rfl
  · trivial
  · trivial
  · exact h1
  · exact h2
theorem none_a : (names6.all fun n => decide (n ≠ z_none)) = true := by decide +kernel
theorem ver_a : (vers.all fun n => decide (n ≠ z_9_9_9)) = true := by decide +kernel
theorem find_none {ps : List Man} (w : wPk ps) : findM ps z_none z_1_0_0 = none := by
  unfold findM
  rw [List.find?_eq_none]
  intro m hm h
  rw [Bool.and_eq_true] at h
  exact of_decide_eq_true (List.all_eq_true.mp none_a _ (w.m m hm).n) (of_decide_eq_true h.1)
theorem find_none2 {ps : List Man} (w : wPk ps) : findM ps z_app z_9_9_9 = none := by
  unfold findM
  rw [List.find?_eq_none]
  intro m hm h
  rw [Bool.and_eq_true] at h
  exact of_decide_eq_true (List.all_eq_true.mp ver_a _ (w.m m hm).v) (of_decide_eq_true h.2)
theorem unit_loop {α γ : Type} {body : α → Unit → T (Lp Unit γ)} : ∀ {l : List α}, (∀ a ∈ l, body a () = T.pure (.nx ())) → forT body l () = T.pure (.nx ())
  | [], _ => rfl
  | a :: l, h => by
    unfold forT
    rw [h a List.mem_cons_self, T.pure_bind]
    exact unit_loop fun b hb => h b (List.mem_cons_of_mem _ hb)
theorem tup_D (l : List D) : (tU tD).enc l = .tuple l := congrArg PyData.tuple (List.map_id l)
theorem long_man : kindB z_packages z_done ((tT (oneT (tT (consT tS (consT tS (consT (tT (oneT tDep)) (oneT (tT (oneT tDep))))))))).enc (z_am2345678901, z_1_0_0, (z_abcdefghijkl, z_star), ((⟨z_am2345678901.cps.extract 0 11⟩ : Str), z_star))) = true := by decide +kernel
theorem sl_long : slS z_am2345678901 none (some (11 : Int)) = T.pure (⟨z_am2345678901.cps.extract 0 11⟩ : Str) := (show HI (slS z_am2345678901 none (some (11 : Int))) from HI.slS _ _ _).is (by decide +kernel)
theorem long_pj : kindB z_project z_done ((tT (oneT tDep)).enc (z_am2345678901, z_star)) = true := by decide +kernel
theorem twice_bad : kindB z_packages z_packages ((tT (consT (tT (consT tS (consT tS (consT (tT nilT) (oneT (tT nilT)))))) (oneT (tT (consT tS (consT tS (consT (tT (oneT tDep)) (oneT (tT nilT))))))))).enc ((z_b, z_1_0_0, (), ()), z_b, z_1_0_0, (z_c, z_star), ())) = true := by decide +kernel
theorem many_bad : kindB z_packages z_packages ((tU tMany).enc many) = true := by decide +kernel
theorem many_ok16 : kindB z_packages z_done ((tU tMany).enc (slT many none (some 16))) = true := by decide +kernel
theorem long_bad : kindB z_lock z_lock (tLk.enc long) = true := by decide +kernel
theorem long_ok102 : kindB z_lock z_done (tLk.enc (slT long none (some 102))) = true := by decide +kernel
theorem two_bad : kindB z_lock z_lock ((tT (consT tEnt (oneT tEnt))).enc ((z_a, z_star, z_1_0_0), (z_a, z_star, z_2_0_0))) = true := by decide +kernel
theorem six_ok : kindB z_project z_done (tDeps.enc (slT seven none (some 6))) = true := by decide +kernel
theorem law_dr (ns : List Int) : ∃ h', F_law ns [] = .ok true h' := by
  obtain ⟨h1, e1, s1⟩ := stream_dr ns (c := 12) (by decide) (by decide)
  have step : ∀ (k : Nat → T Bool), Dr (k 1) (· = true) → ∃ h', T.bind (F_law_stream ns 0 12) k [] = .ok true h' := fun k hk => by
    obtain ⟨b, h', e, _, _, rfl⟩ := hk h1 s1
    refine ⟨h', ?_⟩
    show ((F_law_stream ns 0 12 []).bind _) = _
    rw [e1]
    exact e
  unfold F_law
  refine step _ ?_
  refine Dr.bind packages_dr fun ps hps => ?_
  refine Dr.bind project_dr fun pj hpj => ?_
  refine Dr.bind (some_lock_dr ⟨hps, hpj⟩) fun lock hl => ?_
  rw [show cast (tU tD) (tPk.enc ps) = T.pure (ps.map tMan.enc) from cast_tup _, show cast (tU tD) (tDeps.enc pj) = T.pure (pj.map tDep.enc) from cast_tup _, show cast (tU tD) (tLk.enc lock) = T.pure (lock.map tEnt.enc) from cast_tup _]
  rw [T.pure_bind, T.pure_bind, T.pure_bind, T.pure_bind, T.pure_bind, T.pure_bind, T.pure_bind]
  refine Dr.puB (unit_loop fun p hp => ?_) ?_
  · simp only [List.mem_cons, List.not_mem_nil, or_false] at hp
    rcases hp with rfl | rfl | rfl
    · rw [tup_D, show F_law_kind z_packages (.tuple (ps.map tMan.enc)) = T.pure z_done from kind_pk_ok (check_packages_ok hps.ok), kind_pk_bad (lst_pk _), kind_pk_bad non_pk]
      simp
    · rw [tup_D, show F_law_kind z_project (.tuple (pj.map tDep.enc)) = T.pure z_done from kind_pj_ok (check_project_ok (needs_pj hpj (by omega))), kind_pj_bad (lst_pj _), kind_pj_bad non_pj]
      simp
    · rw [tup_D, show F_law_kind z_lock (.tuple (lock.map tEnt.enc)) = T.pure z_done from kind_lk_ok (check_lock_ok hl.ok), kind_lk_bad (lst_lk _), kind_lk_bad non_lk]
      simp
  rw [Jn.go_nx, T.pure_bind]
  refine Dr.puB (unit_loop fun m hm => ?_) ?_
  · rw [find_package_ok, findM_self hps hm]
    simp only [T.pure_bind]
    rw [show (tO tMan).enc (some m) = tMan.enc m from rfl, same_ok (okS_man (hps.m m hm))]
    rfl
  rw [Jn.go_nx, find_package_ok, find_none hps, T.pure_bind, find_package_ok, find_none2 hps]
  show Dr (T.bind (T.pure false) _) _
  rw [T.pure_bind, if_neg Bool.false_ne_true, T.pure_bind, sl_long]
  simp only [T.pure_bind, T.bind_assoc]
  refine Dr.puB (kind_of long_man) ?_
  simp only [eq_self, decide_true, Bool.not_true, Bool.false_eq_true, if_false, T.pure_bind, T.bind_assoc]
  refine Dr.puB (kind_of long_pj) ?_
  simp only [eq_self, decide_true, Bool.not_true, Bool.false_eq_true, if_false, T.pure_bind, T.bind_assoc]
  refine pick_bind (l := namesD) rfl (List.cons_ne_nil _ _) fun nm hnm => ?_
  refine pick_bind rfl (List.cons_ne_nil _ _) fun need hneed => ?_
  have hneed : need ∈ needsD := by
    simp only [List.mem_cons, List.not_mem_nil, or_false] at hneed
    unfold needsD
    rw [List.mem_append, List.mem_map]
    rcases hneed with h | h | h | h | h | h | h | h <;> subst h
    all_goals first | exact .inr ⟨nm, hnm, rfl⟩ | exact .inl (by simp)
  show Dr (T.bind (rngT 7) fun a => T.bind (compT a _ _) _) _
  rw [← T.bind_assoc]
  refine Dr.puB seven_ok ?_
  refine pick_bind rfl (List.cons_ne_nil _ _) fun part hpart => ?_
  have hpart : part ∈ partsD := by
    simp only [List.mem_cons, List.not_mem_nil, or_false] at hpart
    unfold partsD
    rw [List.mem_append, List.mem_map]
    rcases hpart with h | h | h | h | h <;> subst h
    all_goals first | exact .inr ⟨need, hneed, rfl⟩ | exact .inl (by simp)
  refine pick_bind (l := namesD) rfl (List.cons_ne_nil _ _) fun name hname => ?_
  rw [catT_ok (by simp), T.pure_bind, catT_ok (by simp), T.pure_bind]
  refine pick_bind rfl (List.append_ne_nil_of_left_ne_nil (List.append_ne_nil_of_left_ne_nil (List.cons_ne_nil _ _) _) _) fun man hman => ?_
  have hman : man ∈ mansD := by
    simp only [List.mem_cons, List.not_mem_nil, or_false, List.mem_append] at hman
    unfold mansD
    simp only [List.mem_append, List.mem_map, List.mem_cons, List.not_mem_nil, or_false]
    rcases hman with ((h | h | h | h | h) | h | h | h) | h | h | h
    · exact .inl (.inl (.inl ⟨name, hname, h.symm⟩))
    · exact .inr (.inl h)
    · exact .inl (.inl (.inr ⟨part, hpart, h.symm⟩))
    · exact .inl (.inr ⟨part, hpart, h.symm⟩)
    · exact .inr (.inr (.inl h))
    · exact .inr (.inr (.inr (.inl h)))
    · exact .inr (.inr (.inr (.inr (.inl h))))
    · exact .inr (.inr (.inr (.inr (.inr (.inl h)))))
    · exact .inr (.inr (.inr (.inr (.inr (.inr (.inl h))))))
    · exact .inr (.inr (.inr (.inr (.inr (.inr (.inr (.inl h)))))))
    · exact .inr (.inr (.inr (.inr (.inr (.inr (.inr (.inr h)))))))
  refine Dr.puB (mans_bad man hman) ?_
  simp only [eq_self, decide_true, Bool.not_true, Bool.false_eq_true, if_false, T.pure_bind, T.bind_assoc]
  refine Dr.puB (parts_bad part hpart) ?_
  simp only [eq_self, decide_true, Bool.not_true, Bool.false_eq_true, if_false, T.pure_bind, T.bind_assoc]
  rw [← T.bind_assoc]
  refine Dr.puB many_ok ?_
  refine Dr.puB (kind_of twice_bad) ?_
  simp only [eq_self, decide_true, Bool.not_true, Bool.false_eq_true, if_false, T.pure_bind, T.bind_assoc]
  refine Dr.puB (kind_of many_bad) ?_
  simp only [eq_self, decide_true, Bool.not_true, Bool.false_eq_true, if_false, T.pure_bind, T.bind_assoc]
  refine Dr.puB (kind_of many_ok16) ?_
  simp only [eq_self, decide_true, Bool.not_true, Bool.false_eq_true, if_false, T.pure_bind, T.bind_assoc]
  refine Dr.eq (u := T.bind (needE need) _) (by unfold needE; rw [T.bind_assoc, T.bind_assoc]) ?_
  refine Dr.puB (needE_ok hneed) ?_
  refine pick_bind rfl (List.cons_ne_nil _ _) fun ent hent => ?_
  have hent : ent ∈ entsD := by
    simp only [List.mem_cons, List.not_mem_nil, or_false] at hent
    unfold entsD
    rw [List.mem_append, List.mem_map]
    rcases hent with h | h | h | h <;> subst h
    all_goals first | exact .inl ⟨need, hneed, rfl⟩ | exact .inr (by simp)
  rw [← T.bind_assoc]
  refine Dr.puB long_ok ?_
  refine Dr.puB (ents_bad ent hent) ?_
  simp only [eq_self, decide_true, Bool.not_true, Bool.false_eq_true, if_false, T.pure_bind, T.bind_assoc]
  refine Dr.puB (kind_of long_bad) ?_
  simp only [eq_self, decide_true, Bool.not_true, Bool.false_eq_true, if_false, T.pure_bind, T.bind_assoc]
  refine Dr.puB (kind_of long_ok102) ?_
  simp only [eq_self, decide_true, Bool.not_true, Bool.false_eq_true, if_false, T.pure_bind, T.bind_assoc]
  refine Dr.puB (kind_of two_bad) ?_
  simp only [eq_self, decide_true, if_true]
  refine Dr.puB (kind_of six_ok) ?_
  exact Dr.pure (by simp)
theorem law_true (ns : List Int) (_ : ns.length ≤ 63) : ∃ h', run_law [.scr ns] [] = .ok (.val (.bool true)) h' := by
  obtain ⟨h', e⟩ := law_dr ns
  have := ok_F_law ns []
  rw [e] at this
  exact ⟨h', this⟩
end Q
namespace Q
open PySem PySem.Spec PyProof.Rows L2 U
/-! ### the text -/
def topS (i : Nat) : Stmt := PySem.Challenge.pw_peershelf_k03_packages_projects_locks.main.body.getD i (.Pass ⟨0, 0, 0, 0⟩)
abbrev s_number_of : Stmt := topS 8
abbrev N_number_of : List Str := ["text", "char"]
theorem sc_number_of : FnScope N_number_of ["text"] (defScope s_number_of) := ⟨rfl, rfl, rfl, by decide +kernel, rfl, by decide +kernel, by decide +kernel⟩
abbrev s_next_major : Stmt := topS 10
abbrev N_next_major : List Str := ["numbers", "major", "minor", "patch"]
theorem sc_next_major : FnScope N_next_major ["numbers"] (defScope s_next_major) := ⟨rfl, rfl, rfl, by decide +kernel, rfl, by decide +kernel, by decide +kernel⟩
abbrev s_is_name : Stmt := topS 22
abbrev N_is_name : List Str := ["value", "char"]
theorem sc_is_name : FnScope N_is_name ["value"] (defScope s_is_name) := ⟨rfl, rfl, rfl, by decide +kernel, rfl, by decide +kernel, by decide +kernel⟩
abbrev s_are_different : Stmt := topS 23
abbrev N_are_different : List Str := ["values", "value"]
theorem sc_are_different : FnScope N_are_different ["values"] (defScope s_are_different) := ⟨rfl, rfl, rfl, by decide +kernel, rfl, by decide +kernel, by decide +kernel⟩
abbrev s_find_package : Stmt := topS 32
abbrev N_find_package : List Str := ["packages", "name", "version", "manifest"]
theorem sc_find_package : FnScope N_find_package ["packages", "name", "version"] (defScope s_find_package) := ⟨rfl, rfl, rfl, by decide +kernel, rfl, by decide +kernel, by decide +kernel⟩
abbrev s_law_cell : Stmt := topS 34
abbrev N_law_cell : List Str := ["_law_script", "_law_k"]
theorem sc_law_cell : FnScope N_law_cell ["_law_script", "_law_k"] (defScope s_law_cell) := ⟨rfl, rfl, rfl, by decide +kernel, rfl, by decide +kernel, by decide +kernel⟩
abbrev s_law_draws : Stmt := topS 35
abbrev N_law_draws : List Str := ["_law_cell_here", "_law_count", "_law_number", "_law_great", "_law_found", "_law_k", "_law_mixed"]
theorem sc_law_draws : FnScope N_law_draws ["_law_cell_here", "_law_count"] (defScope s_law_draws) := ⟨rfl, rfl, rfl, by decide +kernel, rfl, by decide +kernel, by decide +kernel⟩
abbrev s_law_next : Stmt := topS 37
abbrev N_law_next : List Str := ["_law_stream_here", "_law_many", "_law_digits", "_law_place", "_law_value"]
theorem sc_law_next : FnScope N_law_next ["_law_stream_here", "_law_many"] (defScope s_law_next) := ⟨rfl, rfl, rfl, by decide +kernel, rfl, by decide +kernel, by decide +kernel⟩
abbrev s_law_is_integer : Stmt := topS 38
abbrev N_law_is_integer : List Str := ["_law_actual"]
theorem sc_law_is_integer : FnScope N_law_is_integer ["_law_actual"] (defScope s_law_is_integer) := ⟨rfl, rfl, rfl, by decide +kernel, rfl, by decide +kernel, by decide +kernel⟩
abbrev s_law_numbers : Stmt := topS 43
abbrev N_law_numbers : List Str := ["_law_version_here", "_law_part"]
theorem sc_law_numbers : FnScope N_law_numbers ["_law_version_here"] (defScope s_law_numbers) := ⟨rfl, rfl, rfl, by decide +kernel, rfl, by decide +kernel, by decide +kernel⟩
abbrev s_law_find : Stmt := topS 49
abbrev N_law_find : List Str := ["_law_packages_here", "_law_name", "_law_version_here", "_law_manifest"]
theorem sc_law_find : FnScope N_law_find ["_law_packages_here", "_law_name", "_law_version_here"] (defScope s_law_find) := ⟨rfl, rfl, rfl, by decide +kernel, rfl, by decide +kernel, by decide +kernel⟩
abbrev s_version_numbers : Stmt := topS 9
abbrev N_version_numbers : List Str := ["value", "parts", "numbers", "part"]
theorem sc_version_numbers : FnScope N_version_numbers ["value"] (defScope s_version_numbers) := ⟨rfl, rfl, rfl, by decide +kernel, rfl, by decide +kernel, by decide +kernel⟩
abbrev s_law_stream : Stmt := topS 36
abbrev N_law_stream : List Str := ["_law_script", "_law_first", "_law_count", "_law_found", "_law_k"]
theorem sc_law_stream : FnScope N_law_stream ["_law_script", "_law_first", "_law_count"] (defScope s_law_stream) := ⟨rfl, rfl, rfl, by decide +kernel, rfl, by decide +kernel, by decide +kernel⟩
abbrev s_law_same : Stmt := topS 39
abbrev N_law_same : List Str := ["_law_actual", "_law_expected", "_law_k"]
theorem sc_law_same : FnScope N_law_same ["_law_actual", "_law_expected"] (defScope s_law_same) := ⟨rfl, rfl, rfl, by decide +kernel, rfl, by decide +kernel, by decide +kernel⟩
abbrev s_law_version : Stmt := topS 40
abbrev N_law_version : List Str := ["_law_stream_here"]
theorem sc_law_version : FnScope N_law_version ["_law_stream_here"] (defScope s_law_version) := ⟨rfl, rfl, rfl, by decide +kernel, rfl, by decide +kernel, by decide +kernel⟩
abbrev s_law_fits_one : Stmt := topS 44
abbrev N_law_fits_one : List Str := ["_law_numbers_here", "_law_text", "_law_ends", "_law_first"]
theorem sc_law_fits_one : FnScope N_law_fits_one ["_law_numbers_here", "_law_text"] (defScope s_law_fits_one) := ⟨rfl, rfl, rfl, by decide +kernel, rfl, by decide +kernel, by decide +kernel⟩
abbrev s_span_between : Stmt := topS 12
abbrev N_span_between : List Str := ["text", "parts", "first", "bound"]
theorem sc_span_between : FnScope N_span_between ["text"] (defScope s_span_between) := ⟨rfl, rfl, rfl, by decide +kernel, rfl, by decide +kernel, by decide +kernel⟩
abbrev s_is_version : Stmt := topS 14
abbrev N_is_version : List Str := ["value"]
theorem sc_is_version : FnScope N_is_version ["value"] (defScope s_is_version) := ⟨rfl, rfl, rfl, by decide +kernel, rfl, by decide +kernel, by decide +kernel⟩
abbrev s_law_alternative : Stmt := topS 41
abbrev N_law_alternative : List Str := ["_law_stream_here", "_law_kind_here"]
theorem sc_law_alternative : FnScope N_law_alternative ["_law_stream_here"] (defScope s_law_alternative) := ⟨rfl, rfl, rfl, by decide +kernel, rfl, by decide +kernel, by decide +kernel⟩
abbrev s_law_fits : Stmt := topS 45
abbrev N_law_fits : List Str := ["_law_version_here", "_law_wanted", "_law_part"]
theorem sc_law_fits : FnScope N_law_fits ["_law_version_here", "_law_wanted"] (defScope s_law_fits) := ⟨rfl, rfl, rfl, by decide +kernel, rfl, by decide +kernel, by decide +kernel⟩
abbrev s_span_of : Stmt := topS 11
abbrev N_span_of : List Str := ["text", "numbers"]
theorem sc_span_of : FnScope N_span_of ["text"] (defScope s_span_of) := ⟨rfl, rfl, rfl, by decide +kernel, rfl, by decide +kernel, by decide +kernel⟩
abbrev s_law_range : Stmt := topS 42
abbrev N_law_range : List Str := ["_law_stream_here"]
theorem sc_law_range : FnScope N_law_range ["_law_stream_here"] (defScope s_law_range) := ⟨rfl, rfl, rfl, by decide +kernel, rfl, by decide +kernel, by decide +kernel⟩
abbrev s_law_kept : Stmt := topS 50
abbrev N_law_kept : List Str := ["_law_packages_here", "_law_lock", "_law_need", "_law_name", "_law_wanted", "_law_version_here"]
theorem sc_law_kept : FnScope N_law_kept ["_law_packages_here", "_law_lock", "_law_need"] (defScope s_law_kept) := ⟨rfl, rfl, rfl, by decide +kernel, rfl, by decide +kernel, by decide +kernel⟩
abbrev s_spans_of : Stmt := topS 13
abbrev N_spans_of : List Str := ["value", "parts", "spans", "part"]
theorem sc_spans_of : FnScope N_spans_of ["value"] (defScope s_spans_of) := ⟨rfl, rfl, rfl, by decide +kernel, rfl, by decide +kernel, by decide +kernel⟩
abbrev s_law_needs : Stmt := topS 46
abbrev N_law_needs : List Str := ["_law_stream_here", "_law_names", "_law_most", "_law_found", "_law_left", "_law_k"]
theorem sc_law_needs : FnScope N_law_needs ["_law_stream_here", "_law_names", "_law_most"] (defScope s_law_needs) := ⟨rfl, rfl, rfl, by decide +kernel, rfl, by decide +kernel, by decide +kernel⟩
abbrev s_law_resolved : Stmt := topS 51
abbrev N_law_resolved : List Str := ["_law_packages_here", "_law_lock", "_law_need", "_law_kept_here", "_law_best", "_law_manifest"]
theorem sc_law_resolved : FnScope N_law_resolved ["_law_packages_here", "_law_lock", "_law_need"] (defScope s_law_resolved) := ⟨rfl, rfl, rfl, by decide +kernel, rfl, by decide +kernel, by decide +kernel⟩
abbrev s_is_range : Stmt := topS 15
abbrev N_is_range : List Str := ["value"]
theorem sc_is_range : FnScope N_is_range ["value"] (defScope s_is_range) := ⟨rfl, rfl, rfl, by decide +kernel, rfl, by decide +kernel, by decide +kernel⟩
abbrev s_law_packages : Stmt := topS 47
abbrev N_law_packages : List Str := ["_law_stream_here", "_law_names", "_law_found", "_law_k", "_law_below", "_law_versions", "_law_turn", "_law_version_here", "_law_needs_here", "_law_taken", "_law_peers", "_law_need", "_law_name"]
theorem sc_law_packages : FnScope N_law_packages ["_law_stream_here"] (defScope s_law_packages) := ⟨rfl, rfl, rfl, by decide +kernel, rfl, by decide +kernel, by decide +kernel⟩
abbrev s_law_project : Stmt := topS 48
abbrev N_law_project : List Str := ["_law_stream_here"]
theorem sc_law_project : FnScope N_law_project ["_law_stream_here"] (defScope s_law_project) := ⟨rfl, rfl, rfl, by decide +kernel, rfl, by decide +kernel, by decide +kernel⟩
abbrev s_law_resolve : Stmt := topS 52
abbrev N_law_resolve : List Str := ["_law_packages_here", "_law_project_here", "_law_lock", "_law_waiting", "_law_found", "_law_turn", "_law_need", "_law_version_here", "_law_entry"]
theorem sc_law_resolve : FnScope N_law_resolve ["_law_packages_here", "_law_project_here", "_law_lock"] (defScope s_law_resolve) := ⟨rfl, rfl, rfl, by decide +kernel, rfl, by decide +kernel, by decide +kernel⟩
abbrev s_is_dependency : Stmt := topS 24
abbrev N_is_dependency : List Str := ["value"]
theorem sc_is_dependency : FnScope N_is_dependency ["value"] (defScope s_is_dependency) := ⟨rfl, rfl, rfl, by decide +kernel, rfl, by decide +kernel, by decide +kernel⟩
abbrev s_law_some_lock : Stmt := topS 53
abbrev N_law_some_lock : List Str := ["_law_stream_here", "_law_packages_here", "_law_project_here", "_law_found", "_law_lock", "_law_name", "_law_wanted", "_law_version_here", "_law_others", "_law_manifest"]
theorem sc_law_some_lock : FnScope N_law_some_lock ["_law_stream_here", "_law_packages_here", "_law_project_here"] (defScope s_law_some_lock) := ⟨rfl, rfl, rfl, by decide +kernel, rfl, by decide +kernel, by decide +kernel⟩
abbrev s_are_dependencies : Stmt := topS 25
abbrev N_are_dependencies : List Str := ["value", "part"]
theorem sc_are_dependencies : FnScope N_are_dependencies ["value"] (defScope s_are_dependencies) := ⟨rfl, rfl, rfl, by decide +kernel, rfl, by decide +kernel, by decide +kernel⟩
abbrev s_is_entry : Stmt := topS 30
abbrev N_is_entry : List Str := ["value"]
theorem sc_is_entry : FnScope N_is_entry ["value"] (defScope s_is_entry) := ⟨rfl, rfl, rfl, by decide +kernel, rfl, by decide +kernel, by decide +kernel⟩
abbrev s_is_manifest : Stmt := topS 26
abbrev N_is_manifest : List Str := ["value", "part"]
theorem sc_is_manifest : FnScope N_is_manifest ["value"] (defScope s_is_manifest) := ⟨rfl, rfl, rfl, by decide +kernel, rfl, by decide +kernel, by decide +kernel⟩
abbrev s_check_project : Stmt := topS 29
abbrev N_check_project : List Str := ["value", "part"]
theorem sc_check_project : FnScope N_check_project ["value"] (defScope s_check_project) := ⟨rfl, rfl, rfl, by decide +kernel, rfl, by decide +kernel, by decide +kernel⟩
abbrev s_check_lock : Stmt := topS 31
abbrev N_check_lock : List Str := ["value", "part"]
theorem sc_check_lock : FnScope N_check_lock ["value"] (defScope s_check_lock) := ⟨rfl, rfl, rfl, by decide +kernel, rfl, by decide +kernel, by decide +kernel⟩
abbrev s_are_packages : Stmt := topS 27
abbrev N_are_packages : List Str := ["value", "part"]
theorem sc_are_packages : FnScope N_are_packages ["value"] (defScope s_are_packages) := ⟨rfl, rfl, rfl, by decide +kernel, rfl, by decide +kernel, by decide +kernel⟩
abbrev s_check_packages : Stmt := topS 28
abbrev N_check_packages : List Str := ["value"]
theorem sc_check_packages : FnScope N_check_packages ["value"] (defScope s_check_packages) := ⟨rfl, rfl, rfl, by decide +kernel, rfl, by decide +kernel, by decide +kernel⟩
abbrev s_law_kind : Stmt := topS 54
abbrev N_law_kind : List Str := ["_law_call", "_law_value", "e"]
theorem sc_law_kind : FnScope N_law_kind ["_law_call", "_law_value"] (defScope s_law_kind) := ⟨rfl, rfl, rfl, by decide +kernel, rfl, by decide +kernel, by decide +kernel⟩
abbrev s_law : Stmt := topS 55
abbrev N_law : List Str := ["_law_script", "_law_stream_here", "_law_packages_here", "_law_project_here", "_law_lock", "_law_call", "_law_value", "_law_manifest", "_law_long", "_law_names", "_law_needs_here", "_law_need", "_law_seven", "_law_parts", "_law_part", "_law_name", "_law_manifests", "_law_twice", "_law_many", "_law_entries", "_law_entry", "_law_k"]
theorem sc_law : FnScope N_law ["_law_script"] (defScope s_law) := ⟨rfl, rfl, rfl, by decide +kernel, rfl, by decide +kernel, by decide +kernel⟩
structure TopD (K : PySem.W.Frag) (mg : Str → Option Value) (x : String) (st : Stmt) (ps : List Str) (f : Addr) (fd : FuncData) : Prop where
  F : Fun K x x st f fd
  b : Binds K fd ps []
  g : mg x = some (.ref f)
structure TopX (K : PySem.W.Frag) (mg : Str → Option Value) (n : Str) (C : Addr) : Prop where
  g : mg n = some (.ref C)
  x : PySem.W.excIn K C [.type "ValueError", .type "Exception", .type "BaseException", .type "object"] "ValueError.__new__" = true
  k : PySem.W.keepIn K (.ref C) = true
  b : PySem.W.subIn K (.ref C) (.type "BaseException") = some true
  t : PySem.W.typeIn K (.ref C) = some (.type "type")
structure Tx (K : PySem.W.Frag) (mg : Str → Option Value) (C_BadLock C_BadPackages C_BadProject C_ShelfError : Addr) : Prop where
  n_abs : mg "abs" = none
  n_all : mg "all" = none
  n_bool : mg "bool" = none
  n_int : mg "int" = none
  n_isinstance : mg "isinstance" = none
  n_len : mg "len" = none
  n_list : mg "list" = none
  n_range : mg "range" = none
  n_sorted : mg "sorted" = none
  n_str : mg "str" = none
  n_tuple : mg "tuple" = none
  g_DIGITS : ∃ t, mg "DIGITS" = some (.str "0123456789" t)
  g_LETTERS : ∃ t, mg "LETTERS" = some (.str "abcdefghijklmnopqrstuvwxyz" t)
  g_MOST_ALTERNATIVES : ∃ t, mg "MOST_ALTERNATIVES" = some (.int 3 t)
  g_MOST_DEPENDENCIES : ∃ t, mg "MOST_DEPENDENCIES" = some (.int 6 t)
  g_MOST_ENTRIES : ∃ t, mg "MOST_ENTRIES" = some (.int 102 t)
  g_MOST_PACKAGES : ∃ t, mg "MOST_PACKAGES" = some (.int 16 t)
  g_OTHERS : ∃ t, mg "OTHERS" = some (.str "abcdefghijklmnopqrstuvwxyz0123456789-" t)
  x_BadLock : TopX K mg "BadLock" C_BadLock
  x_BadPackages : TopX K mg "BadPackages" C_BadPackages
  x_BadProject : TopX K mg "BadProject" C_BadProject
  e_BadPackages : EX K mg "BadPackages" C_BadPackages
  e_BadProject : EX K mg "BadProject" C_BadProject
  e_BadLock : EX K mg "BadLock" C_BadLock
  e_ShelfError : EX K mg "ShelfError" C_ShelfError
  rows : ∀ r ∈ exRows, ExRow.ok K mg r
section
variable {P : Program} {w : World} {K : PySem.W.Frag} {mg : Str → Option Value} {base : Heap} {C_BadLock C_BadPackages C_BadProject C_ShelfError : Addr}
theorem ok_number_of {f : Addr} {fd : FuncData} (D : TopD K mg "number_of" s_number_of ["text"] f fd) (T : Tx K mg C_BadLock C_BadPackages C_BadProject C_ShelfError) : FnOk P w K mg base (L2.CX P w) 1 f fd ["text"] (spOf K mg 1 run_number_of) :=
  fn_ok (N := N_number_of) (fb := b_number_of) D.F sc_number_of fun cdv A outer s H E mu0 hr => (bm_cons (pm_if (wm_or (tm_not (tm_chain (od_le (hU hr)) (od_le (hU hr)) em_int (em_callB cd_len (by rfl) T.n_len PySem.boot_len (am_cons (em_var 0 rfl (by first | exact Or.inl rfl | exact Or.inr (Or.inl rfl) | exact Or.inr (Or.inr rfl))) am_nil)) em_int)) (wm_or1 (tm_not (tm_tru (em_callB (cd_all rfl) (by rfl) T.n_all boot_all (am_cons (em_fz (fm_lcC (own := [("char", 1)]) (is := [1]) rfl sc_number_of.nd (IM.ic (im_str (em_var 0 rfl (by first | exact Or.inl rfl | exact Or.inr (Or.inl rfl) | exact Or.inr (Or.inr rfl))))) (blkOk_by (own := [("char", 1)]) (N := N_number_of) (sc := defScope s_number_of) (by decide +kernel)) (fun _ _ _ _ _ => (gm_name sc_number_of.nd rfl (by first | exact Or.inl rfl | exact Or.inr rfl))) (fun _ _ _ _ _ => sm_nil) (fun _ _ _ _ _ => (em_cmp (od_in (hU hr)) (em_var 1 rfl (by first | exact Or.inl rfl | exact Or.inr (Or.inl rfl) | exact Or.inr (Or.inr rfl))) (em_gstr (by rfl) T.g_DIGITS.choose_spec) (by rfl))) (by decide))) am_nil)))))).tm (bm_one (pm_ret em_none)) bm_nil)
    (bm_cons (pm_if (wm_and (tm_cmp (od_gt (hU hr)) (em_callB cd_len (by rfl) T.n_len PySem.boot_len (am_cons (em_var 0 rfl (by first | exact Or.inl rfl | exact Or.inr (Or.inl rfl) | exact Or.inr (Or.inr rfl))) am_nil)) em_int (by rfl)) (wm_and1 (tm_cmp (od_eq (hU hr)) (em_ixA (em_var 0 rfl (by first | exact Or.inl rfl | exact Or.inr (Or.inl rfl) | exact Or.inr (Or.inr rfl))) em_int (fun _ _ => rfl)) em_str (by rfl)))).tm (bm_one (pm_ret em_none)) bm_nil)
    (bm_one (pm_ret (em_callTy cd_int (by rfl) T.n_int boot_int (am_cons (em_var 0 rfl (by first | exact Or.inl rfl | exact Or.inr (Or.inl rfl) | exact Or.inr (Or.inr rfl))) am_nil))))))
theorem ok_next_major {f : Addr} {fd : FuncData} (D : TopD K mg "next_major" s_next_major ["numbers"] f fd) (T : Tx K mg C_BadLock C_BadPackages C_BadProject C_ShelfError) : FnOk P w K mg base (L2.CX P w) 1 f fd ["numbers"] (spOf K mg 1 run_next_major) :=
  fn_ok (N := N_next_major) (fb := b_next_major) D.F sc_next_major fun cdv A outer s H E mu0 hr => (bm_cons (pm_tg (em_var 0 rfl (by first | exact Or.inl rfl | exact Or.inr (Or.inl rfl) | exact Or.inr (Or.inr rfl))) (gm_tup rfl (gms_cons (gm_name sc_next_major.nd rfl (by first | exact Or.inl rfl | exact Or.inr rfl)) (gms_cons (gm_name sc_next_major.nd rfl (by first | exact Or.inl rfl | exact Or.inr rfl)) (gms_cons (gm_name sc_next_major.nd rfl (by first | exact Or.inl rfl | exact Or.inr rfl)) gms_nil)))))
    (bm_cons (pm_if (tm_cmp (od_gt (hU hr)) (em_var 1 rfl (by first | exact Or.inl rfl | exact Or.inr (Or.inl rfl) | exact Or.inr (Or.inr rfl))) em_int (by rfl)) (bm_one (pm_ret (em_tup (am_cons (em_op od_add (em_var 1 rfl (by first | exact Or.inl rfl | exact Or.inr (Or.inl rfl) | exact Or.inr (Or.inr rfl))) em_int) (am_cons em_int (am_cons em_int am_nil)))))) bm_nil)
    (bm_cons (pm_if (tm_cmp (od_gt (hU hr)) (em_var 2 rfl (by first | exact Or.inl rfl | exact Or.inr (Or.inl rfl) | exact Or.inr (Or.inr rfl))) em_int (by rfl)) (bm_one (pm_ret (em_tup (am_cons em_int (am_cons (em_op od_add (em_var 2 rfl (by first | exact Or.inl rfl | exact Or.inr (Or.inl rfl) | exact Or.inr (Or.inr rfl))) em_int) (am_cons em_int am_nil)))))) bm_nil)
    (bm_one (pm_ret (em_tup (am_cons em_int (am_cons em_int (am_cons (em_op od_add (em_var 3 rfl (by first | exact Or.inl rfl | exact Or.inr (Or.inl rfl) | exact Or.inr (Or.inr rfl))) em_int) am_nil)))))))))
theorem ok_is_name {f : Addr} {fd : FuncData} (D : TopD K mg "is_name" s_is_name ["value"] f fd) (T : Tx K mg C_BadLock C_BadPackages C_BadProject C_ShelfError) : FnOk P w K mg base (L2.CX P w) 1 f fd ["value"] (spOf K mg 1 run_is_name) :=
  fn_ok (N := N_is_name) (fb := b_is_name) D.F sc_is_name fun cdv A outer s H E mu0 hr => (bm_cons (pm_if (wm_or (tm_not (tm_tru (em_isi (em_var 0 rfl (by first | exact Or.inl rfl | exact Or.inr (Or.inl rfl) | exact Or.inr (Or.inr rfl))) (by decide) (by rfl) T.n_isinstance (by rfl) T.n_str boot_str))) (wm_or1 (tm_not (tm_chain (od_le (hU hr)) (od_le (hU hr)) em_int (em_callB cd_len (by rfl) T.n_len PySem.boot_len (am_cons (em_var 0 rfl (by first | exact Or.inl rfl | exact Or.inr (Or.inl rfl) | exact Or.inr (Or.inr rfl))) am_nil)) em_int)))).tm (bm_one (pm_ret em_bool)) bm_nil)
    (bm_one (pm_ret (em_and (em_cmp (od_in (hU hr)) (em_ixA (em_var 0 rfl (by first | exact Or.inl rfl | exact Or.inr (Or.inl rfl) | exact Or.inr (Or.inr rfl))) em_int (fun _ _ => rfl)) (em_gstr (by rfl) T.g_LETTERS.choose_spec) (by rfl)) (em_one (em_callB (cd_all rfl) (by rfl) T.n_all boot_all (am_cons (em_fz (fm_lcC (own := [("char", 1)]) (is := [1]) rfl sc_is_name.nd (IM.ic (im_str (em_var 0 rfl (by first | exact Or.inl rfl | exact Or.inr (Or.inl rfl) | exact Or.inr (Or.inr rfl))))) (blkOk_by (own := [("char", 1)]) (N := N_is_name) (sc := defScope s_is_name) (by decide +kernel)) (fun _ _ _ _ _ => (gm_name sc_is_name.nd rfl (by first | exact Or.inl rfl | exact Or.inr rfl))) (fun _ _ _ _ _ => sm_nil) (fun _ _ _ _ _ => (em_cmp (od_in (hU hr)) (em_var 1 rfl (by first | exact Or.inl rfl | exact Or.inr (Or.inl rfl) | exact Or.inr (Or.inr rfl))) (em_gstr (by rfl) T.g_OTHERS.choose_spec) (by rfl))) (by decide))) am_nil)))))))
theorem ok_are_different {f : Addr} {fd : FuncData} (D : TopD K mg "are_different" s_are_different ["values"] f fd) (T : Tx K mg C_BadLock C_BadPackages C_BadProject C_ShelfError) : FnOk P w K mg base (L2.CX P w) 1 f fd ["values"] (spOf K mg 1 run_are_different) :=
  fn_ok (N := N_are_different) (fb := b_are_different) D.F sc_are_different fun cdv A outer s H E mu0 hr => (bm_one (pm_ret (em_callB (cd_all rfl) (by rfl) T.n_all boot_all (am_cons (em_fz (fm_lcC (own := [("value", 1)]) (is := [1]) rfl sc_are_different.nd (IM.ic (im_seq (em_var 0 rfl (by first | exact Or.inl rfl | exact Or.inr (Or.inl rfl) | exact Or.inr (Or.inr rfl))))) (blkOk_by (own := [("value", 1)]) (N := N_are_different) (sc := defScope s_are_different) (by decide +kernel)) (fun _ _ _ _ _ => (gm_name sc_are_different.nd rfl (by first | exact Or.inl rfl | exact Or.inr rfl))) (fun _ _ _ _ _ => sm_nil) (fun _ _ _ _ _ => (em_cmp (od_eq (hU hr)) (em_count (hU hr) (em_var 0 rfl (by first | exact Or.inl rfl | exact Or.inr (Or.inl rfl) | exact Or.inr (Or.inr rfl))) (em_var 1 rfl (by first | exact Or.inl rfl | exact Or.inr (Or.inl rfl) | exact Or.inr (Or.inr rfl)))) em_int (by rfl))) (by decide))) am_nil))))
theorem ok_find_package {f : Addr} {fd : FuncData} (D : TopD K mg "find_package" s_find_package ["packages", "name", "version"] f fd) (T : Tx K mg C_BadLock C_BadPackages C_BadProject C_ShelfError) : FnOk P w K mg base (L2.CX P w) 1 f fd ["packages", "name", "version"] (spOf K mg 3 run_find_package) :=
  fn_ok (N := N_find_package) (fb := b_find_package) D.F sc_find_package fun cdv A outer s H E mu0 hr => (bm_cons (pm_for (passes_of rfl) rfl (im_seq (em_var 0 rfl (by first | exact Or.inl rfl | exact Or.inr (Or.inl rfl) | exact Or.inr (Or.inr rfl)))) (gm_name sc_find_package.nd rfl (by first | exact Or.inl rfl | exact Or.inr rfl)) (bm_one (pm_if (tm_cmp (od_eq (hU hr)) (em_sl (em_var 3 rfl (by first | exact Or.inl rfl | exact Or.inr (Or.inl rfl) | exact Or.inr (Or.inr rfl))) om_none (om_some em_int)) (em_tup (am_cons (em_var 1 rfl (by first | exact Or.inl rfl | exact Or.inr (Or.inl rfl) | exact Or.inr (Or.inr rfl))) (am_cons (em_var 2 rfl (by first | exact Or.inl rfl | exact Or.inr (Or.inl rfl) | exact Or.inr (Or.inr rfl))) am_nil))) (by rfl)) (bm_one (pm_ret (em_var 3 rfl (by first | exact Or.inl rfl | exact Or.inr (Or.inl rfl) | exact Or.inr (Or.inr rfl))))) bm_nil)))
    (bm_one (pm_ret em_none)))
theorem ok_law_cell {f : Addr} {fd : FuncData} (D : TopD K mg "_law_cell" s_law_cell ["_law_script", "_law_k"] f fd) (T : Tx K mg C_BadLock C_BadPackages C_BadProject C_ShelfError) : FnOk P w K mg base (L2.CX P w) 1 f fd ["_law_script", "_law_k"] (spOf K mg 2 run_law_cell) :=
  fn_ok (N := N_law_cell) (fb := b_law_cell) D.F sc_law_cell fun cdv A outer s H E mu0 hr => (bm_cons (pm_if (tm_cmp (od_lt (hU hr)) (em_var 1 rfl (by first | exact Or.inl rfl | exact Or.inr (Or.inl rfl) | exact Or.inr (Or.inr rfl))) (em_callB cd_len (by rfl) T.n_len PySem.boot_len (am_cons (em_var 0 rfl (by first | exact Or.inl rfl | exact Or.inr (Or.inl rfl) | exact Or.inr (Or.inr rfl))) am_nil)) (by rfl)) (bm_one (pm_ret (em_callTy cd_int (by rfl) T.n_int boot_int (am_cons (em_ixS (em_var 0 rfl (by first | exact Or.inl rfl | exact Or.inr (Or.inl rfl) | exact Or.inr (Or.inr rfl))) (em_var 1 rfl (by first | exact Or.inl rfl | exact Or.inr (Or.inl rfl) | exact Or.inr (Or.inr rfl))) (fun _ _ => rfl)) am_nil)))) bm_nil)
    (bm_one (pm_ret em_int)))
theorem ok_law_draws {f : Addr} {fd : FuncData} (D : TopD K mg "_law_draws" s_law_draws ["_law_cell_here", "_law_count"] f fd) (T : Tx K mg C_BadLock C_BadPackages C_BadProject C_ShelfError) : FnOk P w K mg base (L2.CX P w) 1 f fd ["_law_cell_here", "_law_count"] (spOf K mg 2 run_law_draws) :=
  fn_ok (N := N_law_draws) (fb := b_law_draws) D.F sc_law_draws fun cdv A outer s H E mu0 hr => (bm_cons (pm_set (i := 2) sc_law_draws.nd rfl (by first | exact Or.inl rfl | exact Or.inr rfl) (em_callB cd_abs (by rfl) T.n_abs boot_abs (am_cons (em_callTy cd_int (by rfl) T.n_int boot_int (am_cons (em_var 0 rfl (by first | exact Or.inl rfl | exact Or.inr (Or.inl rfl) | exact Or.inr (Or.inr rfl))) am_nil)) am_nil)))
    (bm_cons (pm_set (i := 3) sc_law_draws.nd rfl (by first | exact Or.inl rfl | exact Or.inr rfl) (em_cmp (od_ge (hU hr)) (em_var 2 rfl (by first | exact Or.inl rfl | exact Or.inr (Or.inl rfl) | exact Or.inr (Or.inr rfl))) (em_op od_pow em_int em_int) (by rfl)))
    (bm_cons (pm_own (i := 4) sc_law_draws.nd rfl (by first | exact Or.inl rfl | exact Or.inr rfl) (fm_lst am_nil))
    (bm_cons (pm_for (passes_of rfl) rfl (im_range1 (by rfl) T.n_range (am_cons em_int am_nil)) (gm_name sc_law_draws.nd rfl (by first | exact Or.inl rfl | exact Or.inr rfl)) (bm_one (pm_if (wm_and (tm_cmp (od_lt (hU hr)) (em_var 5 rfl (by first | exact Or.inl rfl | exact Or.inr (Or.inl rfl) | exact Or.inr (Or.inr rfl))) (em_var 1 rfl (by first | exact Or.inl rfl | exact Or.inr (Or.inl rfl) | exact Or.inr (Or.inr rfl))) (by rfl)) (wm_and1 (tm_tru (em_var 3 rfl (by first | exact Or.inl rfl | exact Or.inr (Or.inl rfl) | exact Or.inr (Or.inr rfl)))))).tm (bm_cons (pm_app (i := 4) rfl (by first | exact Or.inl rfl | exact Or.inr (Or.inl rfl) | exact Or.inr (Or.inr rfl)) (em_op od_mod (em_var 2 rfl (by first | exact Or.inl rfl | exact Or.inr (Or.inl rfl) | exact Or.inr (Or.inr rfl))) em_int))
    (bm_one (pm_set (i := 2) sc_law_draws.nd rfl (by first | exact Or.inl rfl | exact Or.inr rfl) (em_op od_div (em_var 2 rfl (by first | exact Or.inl rfl | exact Or.inr (Or.inl rfl) | exact Or.inr (Or.inr rfl))) em_int)))) (bm_one (pm_if (tm_cmp (od_lt (hU hr)) (em_var 5 rfl (by first | exact Or.inl rfl | exact Or.inr (Or.inl rfl) | exact Or.inr (Or.inr rfl))) (em_var 1 rfl (by first | exact Or.inl rfl | exact Or.inr (Or.inl rfl) | exact Or.inr (Or.inr rfl))) (by rfl)) (bm_cons (pm_set (i := 6) sc_law_draws.nd rfl (by first | exact Or.inl rfl | exact Or.inr rfl) (em_op od_mod (em_op od_add (em_op od_add (em_op od_mul (em_callTy cd_int (by rfl) T.n_int boot_int (am_cons (em_var 2 rfl (by first | exact Or.inl rfl | exact Or.inr (Or.inl rfl) | exact Or.inr (Or.inr rfl))) am_nil)) em_int) (em_op od_mul (em_var 5 rfl (by first | exact Or.inl rfl | exact Or.inr (Or.inl rfl) | exact Or.inr (Or.inr rfl))) em_int)) em_int) em_int))
    (bm_cons (pm_set (i := 6) sc_law_draws.nd rfl (by first | exact Or.inl rfl | exact Or.inr rfl) (em_op od_mod (em_op od_add (em_op od_add (em_op od_mul (em_callTy cd_int (by rfl) T.n_int boot_int (am_cons (em_var 6 rfl (by first | exact Or.inl rfl | exact Or.inr (Or.inl rfl) | exact Or.inr (Or.inr rfl))) am_nil)) (em_callTy cd_int (by rfl) T.n_int boot_int (am_cons (em_var 6 rfl (by first | exact Or.inl rfl | exact Or.inr (Or.inl rfl) | exact Or.inr (Or.inr rfl))) am_nil))) (em_op od_mul (em_var 5 rfl (by first | exact Or.inl rfl | exact Or.inr (Or.inl rfl) | exact Or.inr (Or.inr rfl))) em_int)) em_int) em_int))
    (bm_one (pm_app (i := 4) rfl (by first | exact Or.inl rfl | exact Or.inr (Or.inl rfl) | exact Or.inr (Or.inr rfl)) (em_op od_mod (em_callTy cd_int (by rfl) T.n_int boot_int (am_cons (em_var 6 rfl (by first | exact Or.inl rfl | exact Or.inr (Or.inl rfl) | exact Or.inr (Or.inr rfl))) am_nil)) em_int))))) bm_nil)))))
    (bm_one (pm_fz (i := 4) (pm_ret (em_var 4 rfl (by first | exact Or.inl rfl | exact Or.inr (Or.inl rfl) | exact Or.inr (Or.inr rfl))))))))))
theorem ok_law_next {f : Addr} {fd : FuncData} (D : TopD K mg "_law_next" s_law_next ["_law_stream_here", "_law_many"] f fd) (T : Tx K mg C_BadLock C_BadPackages C_BadProject C_ShelfError) : FnOk P w K mg base (L2.CX P w) 1 f fd ["_law_stream_here", "_law_many"] (spOf K mg 2 run_law_next) :=
  fn_ok (N := N_law_next) (fb := b_law_next) D.F sc_law_next fun cdv A outer s H E mu0 hr => (bm_cons (pm_set (i := 2) sc_law_next.nd rfl (by first | exact Or.inl rfl | exact Or.inr rfl) (em_ixA (em_var 0 rfl (by first | exact Or.inl rfl | exact Or.inr (Or.inl rfl) | exact Or.inr (Or.inr rfl))) em_int (fun _ _ => rfl)))
    (bm_cons (pm_set (i := 3) sc_law_next.nd rfl (by first | exact Or.inl rfl | exact Or.inr rfl) (em_ixA (em_var 0 rfl (by first | exact Or.inl rfl | exact Or.inr (Or.inl rfl) | exact Or.inr (Or.inr rfl))) em_int (fun _ _ => rfl)))
    (bm_cons (pm_set (i := 4) sc_law_next.nd rfl (by first | exact Or.inl rfl | exact Or.inr rfl) (em_op od_mod (em_callTy cd_int (by rfl) T.n_int boot_int (am_cons (em_ixA (em_var 2 rfl (by first | exact Or.inl rfl | exact Or.inr (Or.inl rfl) | exact Or.inr (Or.inr rfl))) (em_op od_mod (em_callTy cd_int (by rfl) T.n_int boot_int (am_cons (em_ixA (em_var 3 rfl (by first | exact Or.inl rfl | exact Or.inr (Or.inl rfl) | exact Or.inr (Or.inr rfl))) em_int (fun _ _ => rfl)) am_nil)) (em_callB cd_len (by rfl) T.n_len PySem.boot_len (am_cons (em_var 2 rfl (by first | exact Or.inl rfl | exact Or.inr (Or.inl rfl) | exact Or.inr (Or.inr rfl))) am_nil))) (fun _ _ => rfl)) am_nil)) (em_var 1 rfl (by first | exact Or.inl rfl | exact Or.inr (Or.inl rfl) | exact Or.inr (Or.inr rfl)))))
    (bm_cons (pm_sub (em_var 3 rfl (by first | exact Or.inl rfl | exact Or.inr (Or.inl rfl) | exact Or.inr (Or.inr rfl))) em_int (em_op od_add (em_ixA (em_var 3 rfl (by first | exact Or.inl rfl | exact Or.inr (Or.inl rfl) | exact Or.inr (Or.inr rfl))) em_int (fun _ _ => rfl)) em_int))
    (bm_one (pm_ret (em_var 4 rfl (by first | exact Or.inl rfl | exact Or.inr (Or.inl rfl) | exact Or.inr (Or.inr rfl)))))))))
theorem ok_law_is_integer {f : Addr} {fd : FuncData} (D : TopD K mg "_law_is_integer" s_law_is_integer ["_law_actual"] f fd) (T : Tx K mg C_BadLock C_BadPackages C_BadProject C_ShelfError) : FnOk P w K mg base (L2.CX P w) 1 f fd ["_law_actual"] (spOf K mg 1 run_law_is_integer) :=
  fn_ok (N := N_law_is_integer) (fb := b_law_is_integer) D.F sc_law_is_integer fun cdv A outer s H E mu0 hr => (bm_one (pm_ret (em_and (em_isi (em_var 0 rfl (by first | exact Or.inl rfl | exact Or.inr (Or.inl rfl) | exact Or.inr (Or.inr rfl))) (by decide) (by rfl) T.n_isinstance (by rfl) T.n_int boot_int) (em_one (em_not (em_isi (em_var 0 rfl (by first | exact Or.inl rfl | exact Or.inr (Or.inl rfl) | exact Or.inr (Or.inr rfl))) (by decide) (by rfl) T.n_isinstance (by rfl) T.n_bool boot_bool))))))
theorem ok_law_numbers {f : Addr} {fd : FuncData} (D : TopD K mg "_law_numbers" s_law_numbers ["_law_version_here"] f fd) (T : Tx K mg C_BadLock C_BadPackages C_BadProject C_ShelfError) : FnOk P w K mg base (L2.CX P w) 1 f fd ["_law_version_here"] (spOf K mg 1 run_law_numbers) :=
  fn_ok (N := N_law_numbers) (fb := b_law_numbers) D.F sc_law_numbers fun cdv A outer s H E mu0 hr => (bm_one (pm_ret (em_fz (fm_lcC (own := [("_law_part", 1)]) (is := [1]) rfl sc_law_numbers.nd (IM.ic (im_seq (em_split (em_var 0 rfl (by first | exact Or.inl rfl | exact Or.inr (Or.inl rfl) | exact Or.inr (Or.inr rfl))) em_str))) (blkOk_by (own := [("_law_part", 1)]) (N := N_law_numbers) (sc := defScope s_law_numbers) (by decide +kernel)) (fun _ _ _ _ _ => (gm_name sc_law_numbers.nd rfl (by first | exact Or.inl rfl | exact Or.inr rfl))) (fun _ _ _ _ _ => sm_nil) (fun _ _ _ _ _ => (em_callTy cd_int (by rfl) T.n_int boot_int (am_cons (em_var 1 rfl (by first | exact Or.inl rfl | exact Or.inr (Or.inl rfl) | exact Or.inr (Or.inr rfl))) am_nil))) (by decide)))))
theorem ok_law_find {f : Addr} {fd : FuncData} (D : TopD K mg "_law_find" s_law_find ["_law_packages_here", "_law_name", "_law_version_here"] f fd) (T : Tx K mg C_BadLock C_BadPackages C_BadProject C_ShelfError) : FnOk P w K mg base (L2.CX P w) 1 f fd ["_law_packages_here", "_law_name", "_law_version_here"] (spOf K mg 3 run_law_find) :=
  fn_ok (N := N_law_find) (fb := b_law_find) D.F sc_law_find fun cdv A outer s H E mu0 hr => (bm_cons (pm_for (passes_of rfl) rfl (im_seq (em_var 0 rfl (by first | exact Or.inl rfl | exact Or.inr (Or.inl rfl) | exact Or.inr (Or.inr rfl)))) (gm_name sc_law_find.nd rfl (by first | exact Or.inl rfl | exact Or.inr rfl)) (bm_one (pm_if (wm_and (tm_cmp (od_eq (hU hr)) (em_ixA (em_var 3 rfl (by first | exact Or.inl rfl | exact Or.inr (Or.inl rfl) | exact Or.inr (Or.inr rfl))) em_int (fun _ _ => rfl)) (em_var 1 rfl (by first | exact Or.inl rfl | exact Or.inr (Or.inl rfl) | exact Or.inr (Or.inr rfl))) (by rfl)) (wm_and1 (tm_cmp (od_eq (hU hr)) (em_ixA (em_var 3 rfl (by first | exact Or.inl rfl | exact Or.inr (Or.inl rfl) | exact Or.inr (Or.inr rfl))) em_int (fun _ _ => rfl)) (em_var 2 rfl (by first | exact Or.inl rfl | exact Or.inr (Or.inl rfl) | exact Or.inr (Or.inr rfl))) (by rfl)))).tm (bm_one (pm_ret (em_var 3 rfl (by first | exact Or.inl rfl | exact Or.inr (Or.inl rfl) | exact Or.inr (Or.inr rfl))))) bm_nil)))
    (bm_one (pm_ret em_none)))
theorem ok_version_numbers {f : Addr} {fd : FuncData} (D : TopD K mg "version_numbers" s_version_numbers ["value"] f fd) (T : Tx K mg C_BadLock C_BadPackages C_BadProject C_ShelfError) {f_number_of : Addr} {fd_number_of : FuncData} (D_number_of : TopD K mg "number_of" s_number_of ["text"] f_number_of fd_number_of) (G_number_of : FnOk P w K mg base (L2.CX P w) 1 f_number_of fd_number_of ["text"] (spOf K mg 1 run_number_of)) : FnOk P w K mg base (L2.CX P w) 2 f fd ["value"] (spOf K mg 1 run_version_numbers) :=
  fn_ok (N := N_version_numbers) (fb := b_version_numbers) D.F sc_version_numbers fun cdv A outer s H E mu0 hr => (bm_cons (pm_if (tm_not (tm_tru (em_isi (em_var 0 rfl (by first | exact Or.inl rfl | exact Or.inr (Or.inl rfl) | exact Or.inr (Or.inr rfl))) (by decide) (by rfl) T.n_isinstance (by rfl) T.n_str boot_str))) (bm_one (pm_ret em_none)) bm_nil)
    (bm_cons (pm_set (i := 1) sc_version_numbers.nd rfl (by first | exact Or.inl rfl | exact Or.inr rfl) (em_split (em_var 0 rfl (by first | exact Or.inl rfl | exact Or.inr (Or.inl rfl) | exact Or.inr (Or.inr rfl))) em_str))
    (bm_cons (pm_if (tm_cmp (od_ne (hU hr)) (em_callB cd_len (by rfl) T.n_len PySem.boot_len (am_cons (em_var 1 rfl (by first | exact Or.inl rfl | exact Or.inr (Or.inl rfl) | exact Or.inr (Or.inr rfl))) am_nil)) em_int (by rfl)) (bm_one (pm_ret em_none)) bm_nil)
    (bm_cons (pm_set (i := 2) sc_version_numbers.nd rfl (by first | exact Or.inl rfl | exact Or.inr rfl) (em_callTy cd_tuple (by rfl) T.n_tuple boot_tuple (am_cons (em_fz (fm_lcC (own := [("part", 3)]) (is := [3]) rfl sc_version_numbers.nd (IM.ic (im_seq (em_var 1 rfl (by first | exact Or.inl rfl | exact Or.inr (Or.inl rfl) | exact Or.inr (Or.inr rfl))))) (blkOk_by (own := [("part", 3)]) (N := N_version_numbers) (sc := defScope s_version_numbers) (by decide +kernel)) (fun _ _ _ _ _ => (gm_name sc_version_numbers.nd rfl (by first | exact Or.inl rfl | exact Or.inr rfl))) (fun _ _ _ _ _ => sm_nil) (fun _ _ _ _ _ => (em_call G_number_of (hr.mono (by decide)) (by rfl) D_number_of.g D_number_of.F.kp D_number_of.b takes0 (am_cons (em_var 3 rfl (by first | exact Or.inl rfl | exact Or.inr (Or.inl rfl) | exact Or.inr (Or.inr rfl))) am_nil))) (by decide))) am_nil)))
    (bm_cons (pm_if (tm_cmp (od_in (hU hr)) em_none (em_var 2 rfl (by first | exact Or.inl rfl | exact Or.inr (Or.inl rfl) | exact Or.inr (Or.inr rfl))) (by rfl)) (bm_one (pm_ret em_none)) bm_nil)
    (bm_one (pm_ret (em_var 2 rfl (by first | exact Or.inl rfl | exact Or.inr (Or.inl rfl) | exact Or.inr (Or.inr rfl))))))))))
theorem ok_law_stream {f : Addr} {fd : FuncData} (D : TopD K mg "_law_stream" s_law_stream ["_law_script", "_law_first", "_law_count"] f fd) (T : Tx K mg C_BadLock C_BadPackages C_BadProject C_ShelfError) {f_law_draws : Addr} {fd_law_draws : FuncData} (D_law_draws : TopD K mg "_law_draws" s_law_draws ["_law_cell_here", "_law_count"] f_law_draws fd_law_draws) (G_law_draws : FnOk P w K mg base (L2.CX P w) 1 f_law_draws fd_law_draws ["_law_cell_here", "_law_count"] (spOf K mg 2 run_law_draws)) {f_law_cell : Addr} {fd_law_cell : FuncData} (D_law_cell : TopD K mg "_law_cell" s_law_cell ["_law_script", "_law_k"] f_law_cell fd_law_cell) (G_law_cell : FnOk P w K mg base (L2.CX P w) 1 f_law_cell fd_law_cell ["_law_script", "_law_k"] (spOf K mg 2 run_law_cell)) : FnOk P w K mg base (L2.CX P w) 2 f fd ["_law_script", "_law_first", "_law_count"] (spOf K mg 3 run_law_stream) :=
  fn_ok (N := N_law_stream) (fb := b_law_stream) D.F sc_law_stream fun cdv A outer s H E mu0 hr => (bm_cons (pm_own (i := 3) sc_law_stream.nd rfl (by first | exact Or.inl rfl | exact Or.inr rfl) (fm_lst am_nil))
    (bm_cons (pm_for (passes_of rfl) rfl (im_range1 (by rfl) T.n_range (am_cons (em_var 2 rfl (by first | exact Or.inl rfl | exact Or.inr (Or.inl rfl) | exact Or.inr (Or.inr rfl))) am_nil)) (gm_name sc_law_stream.nd rfl (by first | exact Or.inl rfl | exact Or.inr rfl)) (bm_one (pm_ext (i := 3) rfl (by first | exact Or.inl rfl | exact Or.inr (Or.inl rfl) | exact Or.inr (Or.inr rfl)) (em_callP G_law_draws (hr.mono (by decide)) (by rfl) D_law_draws.g D_law_draws.F.kp D_law_draws.b (takes_of rfl rfl rfl rfl) (am_cons (em_callP G_law_cell (hr.mono (by decide)) (by rfl) D_law_cell.g D_law_cell.F.kp D_law_cell.b (takes_of rfl rfl rfl rfl) (am_cons (em_var 0 rfl (by first | exact Or.inl rfl | exact Or.inr (Or.inl rfl) | exact Or.inr (Or.inr rfl))) (am_cons (em_op od_add (em_var 1 rfl (by first | exact Or.inl rfl | exact Or.inr (Or.inl rfl) | exact Or.inr (Or.inr rfl))) (em_var 4 rfl (by first | exact Or.inl rfl | exact Or.inr (Or.inl rfl) | exact Or.inr (Or.inr rfl)))) am_nil))) (am_cons em_int am_nil))))))
    (bm_one (pm_fz (i := 3) (pm_ret (em_lstH (am_cons (em_var 3 rfl (by first | exact Or.inl rfl | exact Or.inr (Or.inl rfl) | exact Or.inr (Or.inr rfl))) (am_cons (em_lstH (am_cons em_int am_nil)) am_nil))))))))
theorem ok1_law_same {self : RF} {k : Nat} {f : Addr} {fd : FuncData} (DS_ : TopD K mg "_law_same" s_law_same ["_law_actual", "_law_expected"] f fd) (T : Tx K mg C_BadLock C_BadPackages C_BadProject C_ShelfError) {f_law_is_integer : Addr} {fd_law_is_integer : FuncData} (D_law_is_integer : TopD K mg "_law_is_integer" s_law_is_integer ["_law_actual"] f_law_is_integer fd_law_is_integer) (G_law_is_integer : FnOk P w K mg base (L2.CX P w) 1 f_law_is_integer fd_law_is_integer ["_law_actual"] (spOf K mg 1 run_law_is_integer)) (hk : 2 ≤ k) (GS : FnOk P w K mg base (L2.CX P w) k f fd ["_law_actual", "_law_expected"] (spOf K mg 2 self)) : FnOk P w K mg base (L2.CX P w) (k + 1) f fd ["_law_actual", "_law_expected"] (spOf K mg 2 (runOf 3 (b_law_same self))) :=
  fn_ok (N := N_law_same) (fb := b_law_same self) DS_.F sc_law_same fun cdv A outer s H E mu0 hr => (bm_cons (pm_if (tm_cmp od_is (em_var 1 rfl (by first | exact Or.inl rfl | exact Or.inr (Or.inl rfl) | exact Or.inr (Or.inr rfl))) em_none (by rfl)) (bm_one (pm_ret (em_cmp od_is (em_var 0 rfl (by first | exact Or.inl rfl | exact Or.inr (Or.inl rfl) | exact Or.inr (Or.inr rfl))) em_none (by rfl)))) bm_nil)
    (bm_cons (pm_if (tm_tru (em_isi (em_var 1 rfl (by first | exact Or.inl rfl | exact Or.inr (Or.inl rfl) | exact Or.inr (Or.inr rfl))) (by decide) (by rfl) T.n_isinstance (by rfl) T.n_bool boot_bool)) (bm_one (pm_ret (em_and (em_isi (em_var 0 rfl (by first | exact Or.inl rfl | exact Or.inr (Or.inl rfl) | exact Or.inr (Or.inr rfl))) (by decide) (by rfl) T.n_isinstance (by rfl) T.n_bool boot_bool) (em_one (em_cmp (od_eq (hU hr)) (em_var 0 rfl (by first | exact Or.inl rfl | exact Or.inr (Or.inl rfl) | exact Or.inr (Or.inr rfl))) (em_var 1 rfl (by first | exact Or.inl rfl | exact Or.inr (Or.inl rfl) | exact Or.inr (Or.inr rfl))) (by rfl)))))) bm_nil)
    (bm_cons (pm_if (tm_tru (em_isi (em_var 1 rfl (by first | exact Or.inl rfl | exact Or.inr (Or.inl rfl) | exact Or.inr (Or.inr rfl))) (by decide) (by rfl) T.n_isinstance (by rfl) T.n_int boot_int)) (bm_one (pm_ret (em_and (em_callP G_law_is_integer (hr.mono (by omega)) (by rfl) D_law_is_integer.g D_law_is_integer.F.kp D_law_is_integer.b (takes_of rfl rfl rfl rfl) (am_cons (em_var 0 rfl (by first | exact Or.inl rfl | exact Or.inr (Or.inl rfl) | exact Or.inr (Or.inr rfl))) am_nil)) (em_one (em_cmp (od_eq (hU hr)) (em_var 0 rfl (by first | exact Or.inl rfl | exact Or.inr (Or.inl rfl) | exact Or.inr (Or.inr rfl))) (em_var 1 rfl (by first | exact Or.inl rfl | exact Or.inr (Or.inl rfl) | exact Or.inr (Or.inr rfl))) (by rfl)))))) bm_nil)
    (bm_cons (pm_if (tm_tru (em_isi (em_var 1 rfl (by first | exact Or.inl rfl | exact Or.inr (Or.inl rfl) | exact Or.inr (Or.inr rfl))) (by decide) (by rfl) T.n_isinstance (by rfl) T.n_str boot_str)) (bm_one (pm_ret (em_and (em_isi (em_var 0 rfl (by first | exact Or.inl rfl | exact Or.inr (Or.inl rfl) | exact Or.inr (Or.inr rfl))) (by decide) (by rfl) T.n_isinstance (by rfl) T.n_str boot_str) (em_one (em_cmp (od_eq (hU hr)) (em_var 0 rfl (by first | exact Or.inl rfl | exact Or.inr (Or.inl rfl) | exact Or.inr (Or.inr rfl))) (em_var 1 rfl (by first | exact Or.inl rfl | exact Or.inr (Or.inl rfl) | exact Or.inr (Or.inr rfl))) (by rfl)))))) bm_nil)
    (bm_cons (pm_if (wm_and (tm_tru (em_isi (em_var 1 rfl (by first | exact Or.inl rfl | exact Or.inr (Or.inl rfl) | exact Or.inr (Or.inr rfl))) (by decide) (by rfl) T.n_isinstance (by rfl) T.n_tuple boot_tuple)) (wm_and1 (tm_not (tm_tru (em_isi (em_var 0 rfl (by first | exact Or.inl rfl | exact Or.inr (Or.inl rfl) | exact Or.inr (Or.inr rfl))) (by decide) (by rfl) T.n_isinstance (by rfl) T.n_tuple boot_tuple))))).tm (bm_one (pm_ret em_bool)) bm_nil)
    (bm_cons (pm_if (wm_and (tm_tru (em_isi (em_var 1 rfl (by first | exact Or.inl rfl | exact Or.inr (Or.inl rfl) | exact Or.inr (Or.inr rfl))) (by decide) (by rfl) T.n_isinstance (by rfl) T.n_list boot_list)) (wm_and1 (tm_not (tm_tru (em_isi (em_var 0 rfl (by first | exact Or.inl rfl | exact Or.inr (Or.inl rfl) | exact Or.inr (Or.inr rfl))) (by decide) (by rfl) T.n_isinstance (by rfl) T.n_list boot_list))))).tm (bm_one (pm_ret em_bool)) bm_nil)
    (bm_cons (pm_if (tm_cmp (od_ne (hU hr)) (em_callB cd_len (by rfl) T.n_len PySem.boot_len (am_cons (em_var 0 rfl (by first | exact Or.inl rfl | exact Or.inr (Or.inl rfl) | exact Or.inr (Or.inr rfl))) am_nil)) (em_callB cd_len (by rfl) T.n_len PySem.boot_len (am_cons (em_var 1 rfl (by first | exact Or.inl rfl | exact Or.inr (Or.inl rfl) | exact Or.inr (Or.inr rfl))) am_nil)) (by rfl)) (bm_one (pm_ret em_bool)) bm_nil)
    (bm_cons (pm_for (passes_of rfl) rfl (im_range1 (by rfl) T.n_range (am_cons (em_callB cd_len (by rfl) T.n_len PySem.boot_len (am_cons (em_var 1 rfl (by first | exact Or.inl rfl | exact Or.inr (Or.inl rfl) | exact Or.inr (Or.inr rfl))) am_nil)) am_nil)) (gm_name sc_law_same.nd rfl (by first | exact Or.inl rfl | exact Or.inr rfl)) (bm_one (pm_if (tm_not (tm_tru (em_callP GS (hr.mono (by omega)) (by rfl) DS_.g DS_.F.kp DS_.b (takes_of rfl rfl rfl rfl) (am_cons (em_ixA (em_var 0 rfl (by first | exact Or.inl rfl | exact Or.inr (Or.inl rfl) | exact Or.inr (Or.inr rfl))) (em_var 2 rfl (by first | exact Or.inl rfl | exact Or.inr (Or.inl rfl) | exact Or.inr (Or.inr rfl))) (fun _ _ => rfl)) (am_cons (em_ixA (em_var 1 rfl (by first | exact Or.inl rfl | exact Or.inr (Or.inl rfl) | exact Or.inr (Or.inr rfl))) (em_var 2 rfl (by first | exact Or.inl rfl | exact Or.inr (Or.inl rfl) | exact Or.inr (Or.inr rfl))) (fun _ _ => rfl)) am_nil))))) (bm_one (pm_ret em_bool)) bm_nil)))
    (bm_one (pm_ret em_bool))))))))))
theorem ok0_law_same {f : Addr} {fd : FuncData} : FnOk P w K mg base (L2.CX P w) 2 f fd ["_law_actual", "_law_expected"] (spOf K mg 2 (run_law_same 0)) := ⟨fun vs H Q E h => h.1, fun _ _ _ _ _ _ _ _ _ _ _ _ _ h => by obtain ⟨_, _, _, _, _, _, _, q⟩ := h; exact q.elim⟩
theorem ok_law_same {f : Addr} {fd : FuncData} (D : TopD K mg "_law_same" s_law_same ["_law_actual", "_law_expected"] f fd) (T : Tx K mg C_BadLock C_BadPackages C_BadProject C_ShelfError) {f_law_is_integer : Addr} {fd_law_is_integer : FuncData} (D_law_is_integer : TopD K mg "_law_is_integer" s_law_is_integer ["_law_actual"] f_law_is_integer fd_law_is_integer) (G_law_is_integer : FnOk P w K mg base (L2.CX P w) 1 f_law_is_integer fd_law_is_integer ["_law_actual"] (spOf K mg 1 run_law_is_integer)) : ∀ n, FnOk P w K mg base (L2.CX P w) (2 + n) f fd ["_law_actual", "_law_expected"] (spOf K mg 2 (run_law_same n))
  | 0 => ok0_law_same
  | n + 1 => ok1_law_same D T D_law_is_integer G_law_is_integer (Nat.le_add_right _ _) (ok_law_same D T D_law_is_integer G_law_is_integer n)
theorem ok_law_version {f : Addr} {fd : FuncData} (D : TopD K mg "_law_version" s_law_version ["_law_stream_here"] f fd) (T : Tx K mg C_BadLock C_BadPackages C_BadProject C_ShelfError) {f_law_next : Addr} {fd_law_next : FuncData} (D_law_next : TopD K mg "_law_next" s_law_next ["_law_stream_here", "_law_many"] f_law_next fd_law_next) (G_law_next : FnOk P w K mg base (L2.CX P w) 1 f_law_next fd_law_next ["_law_stream_here", "_law_many"] (spOf K mg 2 run_law_next)) : FnOk P w K mg base (L2.CX P w) 2 f fd ["_law_stream_here"] (spOf K mg 1 run_law_version) :=
  fn_ok (N := N_law_version) (fb := b_law_version) D.F sc_law_version fun cdv A outer s H E mu0 hr => (bm_one (pm_ret (em_ixA (em_lst (am_cons em_str (am_cons em_str (am_cons em_str (am_cons em_str (am_cons em_str (am_cons em_str am_nil))))))) (em_call G_law_next (hr.mono (by decide)) (by rfl) D_law_next.g D_law_next.F.kp D_law_next.b (takes_of rfl rfl rfl rfl) (am_cons (em_var 0 rfl (by first | exact Or.inl rfl | exact Or.inr (Or.inl rfl) | exact Or.inr (Or.inr rfl))) (am_cons em_int am_nil))) (fun _ _ => rfl))))
theorem ok_law_fits_one {f : Addr} {fd : FuncData} (D : TopD K mg "_law_fits_one" s_law_fits_one ["_law_numbers_here", "_law_text"] f fd) (T : Tx K mg C_BadLock C_BadPackages C_BadProject C_ShelfError) {f_law_numbers : Addr} {fd_law_numbers : FuncData} (D_law_numbers : TopD K mg "_law_numbers" s_law_numbers ["_law_version_here"] f_law_numbers fd_law_numbers) (G_law_numbers : FnOk P w K mg base (L2.CX P w) 1 f_law_numbers fd_law_numbers ["_law_version_here"] (spOf K mg 1 run_law_numbers)) : FnOk P w K mg base (L2.CX P w) 2 f fd ["_law_numbers_here", "_law_text"] (spOf K mg 2 run_law_fits_one) :=
  fn_ok (N := N_law_fits_one) (fb := b_law_fits_one) D.F sc_law_fits_one fun cdv A outer s H E mu0 hr => (bm_cons (pm_if (tm_cmp (od_eq (hU hr)) (em_var 1 rfl (by first | exact Or.inl rfl | exact Or.inr (Or.inl rfl) | exact Or.inr (Or.inr rfl))) em_str (by rfl)) (bm_one (pm_ret em_bool)) bm_nil)
    (bm_cons (pm_if (tm_cmp (od_eq (hU hr)) (em_sl (em_var 1 rfl (by first | exact Or.inl rfl | exact Or.inr (Or.inl rfl) | exact Or.inr (Or.inr rfl))) om_none (om_some em_int)) em_str (by rfl)) (bm_cons (pm_set (i := 2) sc_law_fits_one.nd rfl (by first | exact Or.inl rfl | exact Or.inr rfl) (em_split (em_sl (em_var 1 rfl (by first | exact Or.inl rfl | exact Or.inr (Or.inl rfl) | exact Or.inr (Or.inr rfl))) (om_some em_int) om_none) em_str))
    (bm_one (pm_ret (em_and (em_cmp (od_le (hU hr)) (em_call G_law_numbers (hr.mono (by decide)) (by rfl) D_law_numbers.g D_law_numbers.F.kp D_law_numbers.b (takes_of rfl rfl rfl rfl) (am_cons (em_ixA (em_var 2 rfl (by first | exact Or.inl rfl | exact Or.inr (Or.inl rfl) | exact Or.inr (Or.inr rfl))) em_int (fun _ _ => rfl)) am_nil)) (em_var 0 rfl (by first | exact Or.inl rfl | exact Or.inr (Or.inl rfl) | exact Or.inr (Or.inr rfl))) (by rfl)) (em_one (em_cmp (od_lt (hU hr)) (em_var 0 rfl (by first | exact Or.inl rfl | exact Or.inr (Or.inl rfl) | exact Or.inr (Or.inr rfl))) (em_call G_law_numbers (hr.mono (by decide)) (by rfl) D_law_numbers.g D_law_numbers.F.kp D_law_numbers.b (takes_of rfl rfl rfl rfl) (am_cons (em_ixA (em_var 2 rfl (by first | exact Or.inl rfl | exact Or.inr (Or.inl rfl) | exact Or.inr (Or.inr rfl))) em_int (fun _ _ => rfl)) am_nil)) (by rfl))))))) bm_nil)
    (bm_cons (pm_if (tm_cmp (od_notIn (hU hr)) (em_ixA (em_var 1 rfl (by first | exact Or.inl rfl | exact Or.inr (Or.inl rfl) | exact Or.inr (Or.inr rfl))) em_int (fun _ _ => rfl)) (em_lst (am_cons em_str (am_cons em_str am_nil))) (by rfl)) (bm_one (pm_ret (em_cmp (od_eq (hU hr)) (em_var 0 rfl (by first | exact Or.inl rfl | exact Or.inr (Or.inl rfl) | exact Or.inr (Or.inr rfl))) (em_call G_law_numbers (hr.mono (by decide)) (by rfl) D_law_numbers.g D_law_numbers.F.kp D_law_numbers.b (takes_of rfl rfl rfl rfl) (am_cons (em_var 1 rfl (by first | exact Or.inl rfl | exact Or.inr (Or.inl rfl) | exact Or.inr (Or.inr rfl))) am_nil)) (by rfl)))) bm_nil)
    (bm_cons (pm_set (i := 3) sc_law_fits_one.nd rfl (by first | exact Or.inl rfl | exact Or.inr rfl) (em_call G_law_numbers (hr.mono (by decide)) (by rfl) D_law_numbers.g D_law_numbers.F.kp D_law_numbers.b (takes_of rfl rfl rfl rfl) (am_cons (em_sl (em_var 1 rfl (by first | exact Or.inl rfl | exact Or.inr (Or.inl rfl) | exact Or.inr (Or.inr rfl))) (om_some em_int) om_none) am_nil)))
    (bm_cons (pm_if (wm_or (tm_cmp (od_lt (hU hr)) (em_var 0 rfl (by first | exact Or.inl rfl | exact Or.inr (Or.inl rfl) | exact Or.inr (Or.inr rfl))) (em_var 3 rfl (by first | exact Or.inl rfl | exact Or.inr (Or.inl rfl) | exact Or.inr (Or.inr rfl))) (by rfl)) (wm_or1 (tm_cmp (od_ne (hU hr)) (em_ixA (em_var 0 rfl (by first | exact Or.inl rfl | exact Or.inr (Or.inl rfl) | exact Or.inr (Or.inr rfl))) em_int (fun _ _ => rfl)) (em_ixA (em_var 3 rfl (by first | exact Or.inl rfl | exact Or.inr (Or.inl rfl) | exact Or.inr (Or.inr rfl))) em_int (fun _ _ => rfl)) (by rfl)))).tm (bm_one (pm_ret em_bool)) bm_nil)
    (bm_cons (pm_if (tm_cmp (od_eq (hU hr)) (em_ixA (em_var 1 rfl (by first | exact Or.inl rfl | exact Or.inr (Or.inl rfl) | exact Or.inr (Or.inr rfl))) em_int (fun _ _ => rfl)) em_str (by rfl)) (bm_one (pm_ret (em_cmp (od_eq (hU hr)) (em_ixA (em_var 0 rfl (by first | exact Or.inl rfl | exact Or.inr (Or.inl rfl) | exact Or.inr (Or.inr rfl))) em_int (fun _ _ => rfl)) (em_ixA (em_var 3 rfl (by first | exact Or.inl rfl | exact Or.inr (Or.inl rfl) | exact Or.inr (Or.inr rfl))) em_int (fun _ _ => rfl)) (by rfl)))) bm_nil)
    (bm_cons (pm_if (tm_cmp (od_gt (hU hr)) (em_ixA (em_var 3 rfl (by first | exact Or.inl rfl | exact Or.inr (Or.inl rfl) | exact Or.inr (Or.inr rfl))) em_int (fun _ _ => rfl)) em_int (by rfl)) (bm_one (pm_ret em_bool)) bm_nil)
    (bm_cons (pm_if (tm_cmp (od_ne (hU hr)) (em_ixA (em_var 0 rfl (by first | exact Or.inl rfl | exact Or.inr (Or.inl rfl) | exact Or.inr (Or.inr rfl))) em_int (fun _ _ => rfl)) (em_ixA (em_var 3 rfl (by first | exact Or.inl rfl | exact Or.inr (Or.inl rfl) | exact Or.inr (Or.inr rfl))) em_int (fun _ _ => rfl)) (by rfl)) (bm_one (pm_ret em_bool)) bm_nil)
    (bm_one (pm_ret (em_or (em_cmp (od_gt (hU hr)) (em_ixA (em_var 3 rfl (by first | exact Or.inl rfl | exact Or.inr (Or.inl rfl) | exact Or.inr (Or.inr rfl))) em_int (fun _ _ => rfl)) em_int (by rfl)) (em_one (em_cmp (od_eq (hU hr)) (em_ixA (em_var 0 rfl (by first | exact Or.inl rfl | exact Or.inr (Or.inl rfl) | exact Or.inr (Or.inr rfl))) em_int (fun _ _ => rfl)) (em_ixA (em_var 3 rfl (by first | exact Or.inl rfl | exact Or.inr (Or.inl rfl) | exact Or.inr (Or.inr rfl))) em_int (fun _ _ => rfl)) (by rfl))))))))))))))
theorem ok_span_between {f : Addr} {fd : FuncData} (D : TopD K mg "span_between" s_span_between ["text"] f fd) (T : Tx K mg C_BadLock C_BadPackages C_BadProject C_ShelfError) {f_version_numbers : Addr} {fd_version_numbers : FuncData} (D_version_numbers : TopD K mg "version_numbers" s_version_numbers ["value"] f_version_numbers fd_version_numbers) (G_version_numbers : FnOk P w K mg base (L2.CX P w) 2 f_version_numbers fd_version_numbers ["value"] (spOf K mg 1 run_version_numbers)) : FnOk P w K mg base (L2.CX P w) 3 f fd ["text"] (spOf K mg 1 run_span_between) :=
  fn_ok (N := N_span_between) (fb := b_span_between) D.F sc_span_between fun cdv A outer s H E mu0 hr => (bm_cons (pm_set (i := 1) sc_span_between.nd rfl (by first | exact Or.inl rfl | exact Or.inr rfl) (em_split (em_sl (em_var 0 rfl (by first | exact Or.inl rfl | exact Or.inr (Or.inl rfl) | exact Or.inr (Or.inr rfl))) (om_some em_int) om_none) em_str))
    (bm_cons (pm_if (tm_cmp (od_ne (hU hr)) (em_callB cd_len (by rfl) T.n_len PySem.boot_len (am_cons (em_var 1 rfl (by first | exact Or.inl rfl | exact Or.inr (Or.inl rfl) | exact Or.inr (Or.inr rfl))) am_nil)) em_int (by rfl)) (bm_one (pm_ret em_none)) bm_nil)
    (bm_cons (pm_par (i := 2) (j := 3) rfl sc_span_between.nd rfl rfl (by decide) rfl rfl (am_cons (em_call G_version_numbers (hr.mono (by decide)) (by rfl) D_version_numbers.g D_version_numbers.F.kp D_version_numbers.b (takes_of rfl rfl rfl rfl) (am_cons (em_ixA (em_var 1 rfl (by first | exact Or.inl rfl | exact Or.inr (Or.inl rfl) | exact Or.inr (Or.inr rfl))) em_int (fun _ _ => rfl)) am_nil)) (am_cons (em_call G_version_numbers (hr.mono (by decide)) (by rfl) D_version_numbers.g D_version_numbers.F.kp D_version_numbers.b (takes_of rfl rfl rfl rfl) (am_cons (em_ixA (em_var 1 rfl (by first | exact Or.inl rfl | exact Or.inr (Or.inl rfl) | exact Or.inr (Or.inr rfl))) em_int (fun _ _ => rfl)) am_nil)) am_nil)))
    (bm_cons (pm_if (wm_or (tm_cmp od_is (em_var 2 rfl (by first | exact Or.inl rfl | exact Or.inr (Or.inl rfl) | exact Or.inr (Or.inr rfl))) em_none (by rfl)) (wm_or (tm_cmp od_is (em_var 3 rfl (by first | exact Or.inl rfl | exact Or.inr (Or.inl rfl) | exact Or.inr (Or.inr rfl))) em_none (by rfl)) (wm_or1 (tm_not (tm_cmp (od_lt (hU hr)) (em_var 2 rfl (by first | exact Or.inl rfl | exact Or.inr (Or.inl rfl) | exact Or.inr (Or.inr rfl))) (em_var 3 rfl (by first | exact Or.inl rfl | exact Or.inr (Or.inl rfl) | exact Or.inr (Or.inr rfl))) (by rfl)))))).tm (bm_one (pm_ret em_none)) bm_nil)
    (bm_one (pm_ret (em_tup (am_cons (em_var 2 rfl (by first | exact Or.inl rfl | exact Or.inr (Or.inl rfl) | exact Or.inr (Or.inr rfl))) (am_cons (em_var 3 rfl (by first | exact Or.inl rfl | exact Or.inr (Or.inl rfl) | exact Or.inr (Or.inr rfl))) am_nil)))))))))
theorem ok_is_version {f : Addr} {fd : FuncData} (D : TopD K mg "is_version" s_is_version ["value"] f fd) (T : Tx K mg C_BadLock C_BadPackages C_BadProject C_ShelfError) {f_version_numbers : Addr} {fd_version_numbers : FuncData} (D_version_numbers : TopD K mg "version_numbers" s_version_numbers ["value"] f_version_numbers fd_version_numbers) (G_version_numbers : FnOk P w K mg base (L2.CX P w) 2 f_version_numbers fd_version_numbers ["value"] (spOf K mg 1 run_version_numbers)) : FnOk P w K mg base (L2.CX P w) 3 f fd ["value"] (spOf K mg 1 run_is_version) :=
  fn_ok (N := N_is_version) (fb := b_is_version) D.F sc_is_version fun cdv A outer s H E mu0 hr => (bm_one (pm_ret (em_cmp od_isNot (em_call G_version_numbers (hr.mono (by decide)) (by rfl) D_version_numbers.g D_version_numbers.F.kp D_version_numbers.b (takes_of rfl rfl rfl rfl) (am_cons (em_var 0 rfl (by first | exact Or.inl rfl | exact Or.inr (Or.inl rfl) | exact Or.inr (Or.inr rfl))) am_nil)) em_none (by rfl))))
theorem ok_law_alternative {f : Addr} {fd : FuncData} (D : TopD K mg "_law_alternative" s_law_alternative ["_law_stream_here"] f fd) (T : Tx K mg C_BadLock C_BadPackages C_BadProject C_ShelfError) {f_law_next : Addr} {fd_law_next : FuncData} (D_law_next : TopD K mg "_law_next" s_law_next ["_law_stream_here", "_law_many"] f_law_next fd_law_next) (G_law_next : FnOk P w K mg base (L2.CX P w) 1 f_law_next fd_law_next ["_law_stream_here", "_law_many"] (spOf K mg 2 run_law_next)) {f_law_version : Addr} {fd_law_version : FuncData} (D_law_version : TopD K mg "_law_version" s_law_version ["_law_stream_here"] f_law_version fd_law_version) (G_law_version : FnOk P w K mg base (L2.CX P w) 2 f_law_version fd_law_version ["_law_stream_here"] (spOf K mg 1 run_law_version)) : FnOk P w K mg base (L2.CX P w) 3 f fd ["_law_stream_here"] (spOf K mg 1 run_law_alternative) :=
  fn_ok (N := N_law_alternative) (fb := b_law_alternative) D.F sc_law_alternative fun cdv A outer s H E mu0 hr => (bm_cons (pm_set (i := 1) sc_law_alternative.nd rfl (by first | exact Or.inl rfl | exact Or.inr rfl) (em_call G_law_next (hr.mono (by decide)) (by rfl) D_law_next.g D_law_next.F.kp D_law_next.b (takes_of rfl rfl rfl rfl) (am_cons (em_var 0 rfl (by first | exact Or.inl rfl | exact Or.inr (Or.inl rfl) | exact Or.inr (Or.inr rfl))) (am_cons em_int am_nil))))
    (bm_cons (pm_if (tm_cmp (od_le (hU hr)) (em_var 1 rfl (by first | exact Or.inl rfl | exact Or.inr (Or.inl rfl) | exact Or.inr (Or.inr rfl))) em_int (by rfl)) (bm_one (pm_ret em_str)) bm_nil)
    (bm_cons (pm_if (tm_cmp (od_le (hU hr)) (em_var 1 rfl (by first | exact Or.inl rfl | exact Or.inr (Or.inl rfl) | exact Or.inr (Or.inr rfl))) em_int (by rfl)) (bm_one (pm_ret (em_op od_add em_str (em_call G_law_version (hr.mono (by decide)) (by rfl) D_law_version.g D_law_version.F.kp D_law_version.b (takes_of rfl rfl rfl rfl) (am_cons (em_var 0 rfl (by first | exact Or.inl rfl | exact Or.inr (Or.inl rfl) | exact Or.inr (Or.inr rfl))) am_nil))))) bm_nil)
    (bm_cons (pm_if (tm_cmp (od_eq (hU hr)) (em_var 1 rfl (by first | exact Or.inl rfl | exact Or.inr (Or.inl rfl) | exact Or.inr (Or.inr rfl))) em_int (by rfl)) (bm_one (pm_ret (em_op od_add (em_ixA (em_lst (am_cons em_str (am_cons em_str am_nil))) (em_call G_law_next (hr.mono (by decide)) (by rfl) D_law_next.g D_law_next.F.kp D_law_next.b (takes_of rfl rfl rfl rfl) (am_cons (em_var 0 rfl (by first | exact Or.inl rfl | exact Or.inr (Or.inl rfl) | exact Or.inr (Or.inr rfl))) (am_cons em_int am_nil))) (fun _ _ => rfl)) (em_call G_law_version (hr.mono (by decide)) (by rfl) D_law_version.g D_law_version.F.kp D_law_version.b (takes_of rfl rfl rfl rfl) (am_cons (em_var 0 rfl (by first | exact Or.inl rfl | exact Or.inr (Or.inl rfl) | exact Or.inr (Or.inr rfl))) am_nil))))) bm_nil)
    (bm_one (pm_ret (em_ixA (em_lst (am_cons em_str (am_cons em_str (am_cons em_str am_nil)))) (em_call G_law_next (hr.mono (by decide)) (by rfl) D_law_next.g D_law_next.F.kp D_law_next.b (takes_of rfl rfl rfl rfl) (am_cons (em_var 0 rfl (by first | exact Or.inl rfl | exact Or.inr (Or.inl rfl) | exact Or.inr (Or.inr rfl))) (am_cons em_int am_nil))) (fun _ _ => rfl))))))))
theorem ok_law_fits {f : Addr} {fd : FuncData} (D : TopD K mg "_law_fits" s_law_fits ["_law_version_here", "_law_wanted"] f fd) (T : Tx K mg C_BadLock C_BadPackages C_BadProject C_ShelfError) {f_law_fits_one : Addr} {fd_law_fits_one : FuncData} (D_law_fits_one : TopD K mg "_law_fits_one" s_law_fits_one ["_law_numbers_here", "_law_text"] f_law_fits_one fd_law_fits_one) (G_law_fits_one : FnOk P w K mg base (L2.CX P w) 2 f_law_fits_one fd_law_fits_one ["_law_numbers_here", "_law_text"] (spOf K mg 2 run_law_fits_one)) {f_law_numbers : Addr} {fd_law_numbers : FuncData} (D_law_numbers : TopD K mg "_law_numbers" s_law_numbers ["_law_version_here"] f_law_numbers fd_law_numbers) (G_law_numbers : FnOk P w K mg base (L2.CX P w) 1 f_law_numbers fd_law_numbers ["_law_version_here"] (spOf K mg 1 run_law_numbers)) : FnOk P w K mg base (L2.CX P w) 3 f fd ["_law_version_here", "_law_wanted"] (spOf K mg 2 run_law_fits) :=
  fn_ok (N := N_law_fits) (fb := b_law_fits) D.F sc_law_fits fun cdv A outer s H E mu0 hr => (bm_cons (pm_for (passes_of rfl) rfl (im_seq (em_split (em_var 1 rfl (by first | exact Or.inl rfl | exact Or.inr (Or.inl rfl) | exact Or.inr (Or.inr rfl))) em_str)) (gm_name sc_law_fits.nd rfl (by first | exact Or.inl rfl | exact Or.inr rfl)) (bm_one (pm_if (tm_tru (em_call G_law_fits_one (hr.mono (by decide)) (by rfl) D_law_fits_one.g D_law_fits_one.F.kp D_law_fits_one.b (takes_of rfl rfl rfl rfl) (am_cons (em_call G_law_numbers (hr.mono (by decide)) (by rfl) D_law_numbers.g D_law_numbers.F.kp D_law_numbers.b (takes_of rfl rfl rfl rfl) (am_cons (em_var 0 rfl (by first | exact Or.inl rfl | exact Or.inr (Or.inl rfl) | exact Or.inr (Or.inr rfl))) am_nil)) (am_cons (em_var 2 rfl (by first | exact Or.inl rfl | exact Or.inr (Or.inl rfl) | exact Or.inr (Or.inr rfl))) am_nil)))) (bm_one (pm_ret em_bool)) bm_nil)))
    (bm_one (pm_ret em_bool)))
theorem ok_span_of {f : Addr} {fd : FuncData} (D : TopD K mg "span_of" s_span_of ["text"] f fd) (T : Tx K mg C_BadLock C_BadPackages C_BadProject C_ShelfError) {f_span_between : Addr} {fd_span_between : FuncData} (D_span_between : TopD K mg "span_between" s_span_between ["text"] f_span_between fd_span_between) (G_span_between : FnOk P w K mg base (L2.CX P w) 3 f_span_between fd_span_between ["text"] (spOf K mg 1 run_span_between)) {f_version_numbers : Addr} {fd_version_numbers : FuncData} (D_version_numbers : TopD K mg "version_numbers" s_version_numbers ["value"] f_version_numbers fd_version_numbers) (G_version_numbers : FnOk P w K mg base (L2.CX P w) 2 f_version_numbers fd_version_numbers ["value"] (spOf K mg 1 run_version_numbers)) {f_next_major : Addr} {fd_next_major : FuncData} (D_next_major : TopD K mg "next_major" s_next_major ["numbers"] f_next_major fd_next_major) (G_next_major : FnOk P w K mg base (L2.CX P w) 1 f_next_major fd_next_major ["numbers"] (spOf K mg 1 run_next_major)) : FnOk P w K mg base (L2.CX P w) 4 f fd ["text"] (spOf K mg 1 run_span_of) :=
  fn_ok (N := N_span_of) (fb := b_span_of) D.F sc_span_of fun cdv A outer s H E mu0 hr => (bm_cons (pm_if (tm_cmp (od_eq (hU hr)) (em_var 0 rfl (by first | exact Or.inl rfl | exact Or.inr (Or.inl rfl) | exact Or.inr (Or.inr rfl))) em_str (by rfl)) (bm_one (pm_ret (em_tup (am_cons (em_tup (am_cons em_int (am_cons em_int (am_cons em_int am_nil)))) (am_cons em_none am_nil))))) bm_nil)
    (bm_cons (pm_if (tm_tru (em_starts (em_var 0 rfl (by first | exact Or.inl rfl | exact Or.inr (Or.inl rfl) | exact Or.inr (Or.inr rfl))) em_str)) (bm_one (pm_ret (em_call G_span_between (hr.mono (by decide)) (by rfl) D_span_between.g D_span_between.F.kp D_span_between.b (takes_of rfl rfl rfl rfl) (am_cons (em_var 0 rfl (by first | exact Or.inl rfl | exact Or.inr (Or.inl rfl) | exact Or.inr (Or.inr rfl))) am_nil)))) bm_nil)
    (bm_cons (pm_set (i := 1) sc_span_of.nd rfl (by first | exact Or.inl rfl | exact Or.inr rfl) (em_call G_version_numbers (hr.mono (by decide)) (by rfl) D_version_numbers.g D_version_numbers.F.kp D_version_numbers.b (takes_of rfl rfl rfl rfl) (am_cons (em_if (tm_cmp (od_in (hU hr)) (em_sl (em_var 0 rfl (by first | exact Or.inl rfl | exact Or.inr (Or.inl rfl) | exact Or.inr (Or.inr rfl))) om_none (om_some em_int)) (em_tup (am_cons em_str (am_cons em_str am_nil))) (by rfl)) (em_sl (em_var 0 rfl (by first | exact Or.inl rfl | exact Or.inr (Or.inl rfl) | exact Or.inr (Or.inr rfl))) (om_some em_int) om_none) (em_var 0 rfl (by first | exact Or.inl rfl | exact Or.inr (Or.inl rfl) | exact Or.inr (Or.inr rfl)))) am_nil)))
    (bm_cons (pm_if (tm_cmp od_is (em_var 1 rfl (by first | exact Or.inl rfl | exact Or.inr (Or.inl rfl) | exact Or.inr (Or.inr rfl))) em_none (by rfl)) (bm_one (pm_ret em_none)) bm_nil)
    (bm_cons (pm_if (tm_cmp (od_eq (hU hr)) (em_ixA (em_var 0 rfl (by first | exact Or.inl rfl | exact Or.inr (Or.inl rfl) | exact Or.inr (Or.inr rfl))) em_int (fun _ _ => rfl)) em_str (by rfl)) (bm_one (pm_ret (em_tup (am_cons (em_var 1 rfl (by first | exact Or.inl rfl | exact Or.inr (Or.inl rfl) | exact Or.inr (Or.inr rfl))) (am_cons (em_call G_next_major (hr.mono (by decide)) (by rfl) D_next_major.g D_next_major.F.kp D_next_major.b (takes_of rfl rfl rfl rfl) (am_cons (em_var 1 rfl (by first | exact Or.inl rfl | exact Or.inr (Or.inl rfl) | exact Or.inr (Or.inr rfl))) am_nil)) am_nil))))) bm_nil)
    (bm_cons (pm_if (tm_cmp (od_eq (hU hr)) (em_ixA (em_var 0 rfl (by first | exact Or.inl rfl | exact Or.inr (Or.inl rfl) | exact Or.inr (Or.inr rfl))) em_int (fun _ _ => rfl)) em_str (by rfl)) (bm_one (pm_ret (em_tup (am_cons (em_var 1 rfl (by first | exact Or.inl rfl | exact Or.inr (Or.inl rfl) | exact Or.inr (Or.inr rfl))) (am_cons (em_tup (am_cons (em_ixA (em_var 1 rfl (by first | exact Or.inl rfl | exact Or.inr (Or.inl rfl) | exact Or.inr (Or.inr rfl))) em_int (fun _ _ => rfl)) (am_cons (em_op od_add (em_ixA (em_var 1 rfl (by first | exact Or.inl rfl | exact Or.inr (Or.inl rfl) | exact Or.inr (Or.inr rfl))) em_int (fun _ _ => rfl)) em_int) (am_cons em_int am_nil)))) am_nil))))) bm_nil)
    (bm_one (pm_ret (em_tup (am_cons (em_var 1 rfl (by first | exact Or.inl rfl | exact Or.inr (Or.inl rfl) | exact Or.inr (Or.inr rfl))) (am_cons (em_tup (am_cons (em_ixA (em_var 1 rfl (by first | exact Or.inl rfl | exact Or.inr (Or.inl rfl) | exact Or.inr (Or.inr rfl))) em_int (fun _ _ => rfl)) (am_cons (em_ixA (em_var 1 rfl (by first | exact Or.inl rfl | exact Or.inr (Or.inl rfl) | exact Or.inr (Or.inr rfl))) em_int (fun _ _ => rfl)) (am_cons (em_op od_add (em_ixA (em_var 1 rfl (by first | exact Or.inl rfl | exact Or.inr (Or.inl rfl) | exact Or.inr (Or.inr rfl))) em_int (fun _ _ => rfl)) em_int) am_nil)))) am_nil)))))))))))
theorem ok_law_range {f : Addr} {fd : FuncData} (D : TopD K mg "_law_range" s_law_range ["_law_stream_here"] f fd) (T : Tx K mg C_BadLock C_BadPackages C_BadProject C_ShelfError) {f_law_next : Addr} {fd_law_next : FuncData} (D_law_next : TopD K mg "_law_next" s_law_next ["_law_stream_here", "_law_many"] f_law_next fd_law_next) (G_law_next : FnOk P w K mg base (L2.CX P w) 1 f_law_next fd_law_next ["_law_stream_here", "_law_many"] (spOf K mg 2 run_law_next)) {f_law_alternative : Addr} {fd_law_alternative : FuncData} (D_law_alternative : TopD K mg "_law_alternative" s_law_alternative ["_law_stream_here"] f_law_alternative fd_law_alternative) (G_law_alternative : FnOk P w K mg base (L2.CX P w) 3 f_law_alternative fd_law_alternative ["_law_stream_here"] (spOf K mg 1 run_law_alternative)) : FnOk P w K mg base (L2.CX P w) 4 f fd ["_law_stream_here"] (spOf K mg 1 run_law_range) :=
  fn_ok (N := N_law_range) (fb := b_law_range) D.F sc_law_range fun cdv A outer s H E mu0 hr => (bm_cons (pm_if (tm_cmp (od_eq (hU hr)) (em_call G_law_next (hr.mono (by decide)) (by rfl) D_law_next.g D_law_next.F.kp D_law_next.b (takes_of rfl rfl rfl rfl) (am_cons (em_var 0 rfl (by first | exact Or.inl rfl | exact Or.inr (Or.inl rfl) | exact Or.inr (Or.inr rfl))) (am_cons em_int am_nil))) em_int (by rfl)) (bm_one (pm_ret (em_op od_add (em_op od_add (em_call G_law_alternative (hr.mono (by decide)) (by rfl) D_law_alternative.g D_law_alternative.F.kp D_law_alternative.b (takes_of rfl rfl rfl rfl) (am_cons (em_var 0 rfl (by first | exact Or.inl rfl | exact Or.inr (Or.inl rfl) | exact Or.inr (Or.inr rfl))) am_nil)) em_str) (em_call G_law_alternative (hr.mono (by decide)) (by rfl) D_law_alternative.g D_law_alternative.F.kp D_law_alternative.b (takes_of rfl rfl rfl rfl) (am_cons (em_var 0 rfl (by first | exact Or.inl rfl | exact Or.inr (Or.inl rfl) | exact Or.inr (Or.inr rfl))) am_nil))))) bm_nil)
    (bm_one (pm_ret (em_call G_law_alternative (hr.mono (by decide)) (by rfl) D_law_alternative.g D_law_alternative.F.kp D_law_alternative.b (takes_of rfl rfl rfl rfl) (am_cons (em_var 0 rfl (by first | exact Or.inl rfl | exact Or.inr (Or.inl rfl) | exact Or.inr (Or.inr rfl))) am_nil)))))
theorem ok_law_kept {f : Addr} {fd : FuncData} (D : TopD K mg "_law_kept" s_law_kept ["_law_packages_here", "_law_lock", "_law_need"] f fd) (T : Tx K mg C_BadLock C_BadPackages C_BadProject C_ShelfError) {f_law_fits : Addr} {fd_law_fits : FuncData} (D_law_fits : TopD K mg "_law_fits" s_law_fits ["_law_version_here", "_law_wanted"] f_law_fits fd_law_fits) (G_law_fits : FnOk P w K mg base (L2.CX P w) 3 f_law_fits fd_law_fits ["_law_version_here", "_law_wanted"] (spOf K mg 2 run_law_fits)) {f_law_find : Addr} {fd_law_find : FuncData} (D_law_find : TopD K mg "_law_find" s_law_find ["_law_packages_here", "_law_name", "_law_version_here"] f_law_find fd_law_find) (G_law_find : FnOk P w K mg base (L2.CX P w) 1 f_law_find fd_law_find ["_law_packages_here", "_law_name", "_law_version_here"] (spOf K mg 3 run_law_find)) : FnOk P w K mg base (L2.CX P w) 4 f fd ["_law_packages_here", "_law_lock", "_law_need"] (spOf K mg 3 run_law_kept) :=
  fn_ok (N := N_law_kept) (fb := b_law_kept) D.F sc_law_kept fun cdv A outer s H E mu0 hr => (bm_cons (pm_for (passes_of rfl) rfl (im_seq (em_var 1 rfl (by first | exact Or.inl rfl | exact Or.inr (Or.inl rfl) | exact Or.inr (Or.inr rfl)))) (gm_tup rfl (gms_cons (gm_name sc_law_kept.nd rfl (by first | exact Or.inl rfl | exact Or.inr rfl)) (gms_cons (gm_name sc_law_kept.nd rfl (by first | exact Or.inl rfl | exact Or.inr rfl)) (gms_cons (gm_name sc_law_kept.nd rfl (by first | exact Or.inl rfl | exact Or.inr rfl)) gms_nil)))) (bm_one (pm_if (wm_and (tm_cmp (od_eq (hU hr)) (em_tup (am_cons (em_var 3 rfl (by first | exact Or.inl rfl | exact Or.inr (Or.inl rfl) | exact Or.inr (Or.inr rfl))) (am_cons (em_var 4 rfl (by first | exact Or.inl rfl | exact Or.inr (Or.inl rfl) | exact Or.inr (Or.inr rfl))) am_nil))) (em_var 2 rfl (by first | exact Or.inl rfl | exact Or.inr (Or.inl rfl) | exact Or.inr (Or.inr rfl))) (by rfl)) (wm_and (tm_tru (em_call G_law_fits (hr.mono (by decide)) (by rfl) D_law_fits.g D_law_fits.F.kp D_law_fits.b (takes_of rfl rfl rfl rfl) (am_cons (em_var 5 rfl (by first | exact Or.inl rfl | exact Or.inr (Or.inl rfl) | exact Or.inr (Or.inr rfl))) (am_cons (em_var 4 rfl (by first | exact Or.inl rfl | exact Or.inr (Or.inl rfl) | exact Or.inr (Or.inr rfl))) am_nil)))) (wm_and1 (tm_cmp od_isNot (em_call G_law_find (hr.mono (by decide)) (by rfl) D_law_find.g D_law_find.F.kp D_law_find.b (takes_of rfl rfl rfl rfl) (am_cons (em_var 0 rfl (by first | exact Or.inl rfl | exact Or.inr (Or.inl rfl) | exact Or.inr (Or.inr rfl))) (am_cons (em_var 3 rfl (by first | exact Or.inl rfl | exact Or.inr (Or.inl rfl) | exact Or.inr (Or.inr rfl))) (am_cons (em_var 5 rfl (by first | exact Or.inl rfl | exact Or.inr (Or.inl rfl) | exact Or.inr (Or.inr rfl))) am_nil)))) em_none (by rfl))))).tm (bm_one (pm_ret (em_var 5 rfl (by first | exact Or.inl rfl | exact Or.inr (Or.inl rfl) | exact Or.inr (Or.inr rfl))))) bm_nil)))
    (bm_one (pm_ret em_none)))
theorem ok_spans_of {f : Addr} {fd : FuncData} (D : TopD K mg "spans_of" s_spans_of ["value"] f fd) (T : Tx K mg C_BadLock C_BadPackages C_BadProject C_ShelfError) {f_span_of : Addr} {fd_span_of : FuncData} (D_span_of : TopD K mg "span_of" s_span_of ["text"] f_span_of fd_span_of) (G_span_of : FnOk P w K mg base (L2.CX P w) 4 f_span_of fd_span_of ["text"] (spOf K mg 1 run_span_of)) : FnOk P w K mg base (L2.CX P w) 5 f fd ["value"] (spOf K mg 1 run_spans_of) :=
  fn_ok (N := N_spans_of) (fb := b_spans_of) D.F sc_spans_of fun cdv A outer s H E mu0 hr => (bm_cons (pm_if (tm_not (tm_tru (em_isi (em_var 0 rfl (by first | exact Or.inl rfl | exact Or.inr (Or.inl rfl) | exact Or.inr (Or.inr rfl))) (by decide) (by rfl) T.n_isinstance (by rfl) T.n_str boot_str))) (bm_one (pm_ret em_none)) bm_nil)
    (bm_cons (pm_set (i := 1) sc_spans_of.nd rfl (by first | exact Or.inl rfl | exact Or.inr rfl) (em_split (em_var 0 rfl (by first | exact Or.inl rfl | exact Or.inr (Or.inl rfl) | exact Or.inr (Or.inr rfl))) em_str))
    (bm_cons (pm_ownLcC (i := 2) (own := [("part", 3)]) (is := [3]) rfl sc_spans_of.nd rfl rfl (sw_true rfl rfl rfl (by decide +kernel)) (IM.ic (im_seq (em_var 1 rfl (by first | exact Or.inl rfl | exact Or.inr (Or.inl rfl) | exact Or.inr (Or.inr rfl))))) (blkOk_by (own := [("part", 3)]) (N := N_spans_of) (sc := defScope s_spans_of) (by decide +kernel)) (fun _ _ _ _ _ => (gm_name sc_spans_of.nd rfl (by first | exact Or.inl rfl | exact Or.inr rfl))) (fun _ _ _ _ _ => sm_nil) (fun _ _ _ _ _ => (em_call G_span_of (hr.mono (by decide)) (by rfl) D_span_of.g D_span_of.F.kp D_span_of.b takes0 (am_cons (em_var 3 rfl (by first | exact Or.inl rfl | exact Or.inr (Or.inl rfl) | exact Or.inr (Or.inr rfl))) am_nil))) (by decide))
    (bm_cons (pm_fz (i := 2) (pm_if (wm_or (tm_cmp (od_gt (hU hr)) (em_callB cd_len (by rfl) T.n_len PySem.boot_len (am_cons (em_var 1 rfl (by first | exact Or.inl rfl | exact Or.inr (Or.inl rfl) | exact Or.inr (Or.inr rfl))) am_nil)) (em_gint (by rfl) T.g_MOST_ALTERNATIVES.choose_spec) (by rfl)) (wm_or1 (tm_cmp (od_in (hU hr)) em_none (em_var 2 rfl (by first | exact Or.inl rfl | exact Or.inr (Or.inl rfl) | exact Or.inr (Or.inr rfl))) (by rfl)))).tm (bm_one (pm_ret em_none)) bm_nil))
    (bm_one (pm_ret (em_var 2 rfl (by first | exact Or.inl rfl | exact Or.inr (Or.inl rfl) | exact Or.inr (Or.inr rfl)))))))))
theorem ok_law_needs {f : Addr} {fd : FuncData} (D : TopD K mg "_law_needs" s_law_needs ["_law_stream_here", "_law_names", "_law_most"] f fd) (T : Tx K mg C_BadLock C_BadPackages C_BadProject C_ShelfError) {f_law_next : Addr} {fd_law_next : FuncData} (D_law_next : TopD K mg "_law_next" s_law_next ["_law_stream_here", "_law_many"] f_law_next fd_law_next) (G_law_next : FnOk P w K mg base (L2.CX P w) 1 f_law_next fd_law_next ["_law_stream_here", "_law_many"] (spOf K mg 2 run_law_next)) {f_law_range : Addr} {fd_law_range : FuncData} (D_law_range : TopD K mg "_law_range" s_law_range ["_law_stream_here"] f_law_range fd_law_range) (G_law_range : FnOk P w K mg base (L2.CX P w) 4 f_law_range fd_law_range ["_law_stream_here"] (spOf K mg 1 run_law_range)) : FnOk P w K mg base (L2.CX P w) 5 f fd ["_law_stream_here", "_law_names", "_law_most"] (spOf K mg 3 run_law_needs) :=
  fn_ok (N := N_law_needs) (fb := b_law_needs) D.F sc_law_needs fun cdv A outer s H E mu0 hr => (bm_cons (pm_own (i := 3) sc_law_needs.nd rfl (by first | exact Or.inl rfl | exact Or.inr rfl) (fm_lst am_nil))
    (bm_cons (pm_set (i := 4) sc_law_needs.nd rfl (by first | exact Or.inl rfl | exact Or.inr rfl) (em_callTy cd_listH (by rfl) T.n_list boot_list (am_cons (em_var 1 rfl (by first | exact Or.inl rfl | exact Or.inr (Or.inl rfl) | exact Or.inr (Or.inr rfl))) am_nil)))
    (bm_cons (pm_for (passes_of rfl) rfl (im_range1 (by rfl) T.n_range (am_cons (em_call G_law_next (hr.mono (by decide)) (by rfl) D_law_next.g D_law_next.F.kp D_law_next.b (takes_of rfl rfl rfl rfl) (am_cons (em_var 0 rfl (by first | exact Or.inl rfl | exact Or.inr (Or.inl rfl) | exact Or.inr (Or.inr rfl))) (am_cons (em_op od_add (em_var 2 rfl (by first | exact Or.inl rfl | exact Or.inr (Or.inl rfl) | exact Or.inr (Or.inr rfl))) em_int) am_nil))) am_nil)) (gm_name sc_law_needs.nd rfl (by first | exact Or.inl rfl | exact Or.inr rfl)) (bm_one (pm_if (tm_truH (em_var 4 rfl (by first | exact Or.inl rfl | exact Or.inr (Or.inl rfl) | exact Or.inr (Or.inr rfl)))) (bm_one (pm_app (i := 3) rfl (by first | exact Or.inl rfl | exact Or.inr (Or.inl rfl) | exact Or.inr (Or.inr rfl)) (em_tup (am_cons (em_pop (em_var 4 rfl (by first | exact Or.inl rfl | exact Or.inr (Or.inl rfl) | exact Or.inr (Or.inr rfl))) (em_call G_law_next (hr.mono (by decide)) (by rfl) D_law_next.g D_law_next.F.kp D_law_next.b (takes_of rfl rfl rfl rfl) (am_cons (em_var 0 rfl (by first | exact Or.inl rfl | exact Or.inr (Or.inl rfl) | exact Or.inr (Or.inr rfl))) (am_cons (em_callB cd_lenH (by rfl) T.n_len PySem.boot_len (am_cons (em_var 4 rfl (by first | exact Or.inl rfl | exact Or.inr (Or.inl rfl) | exact Or.inr (Or.inr rfl))) am_nil)) am_nil)))) (am_cons (em_call G_law_range (hr.mono (by decide)) (by rfl) D_law_range.g D_law_range.F.kp D_law_range.b (takes_of rfl rfl rfl rfl) (am_cons (em_var 0 rfl (by first | exact Or.inl rfl | exact Or.inr (Or.inl rfl) | exact Or.inr (Or.inr rfl))) am_nil)) am_nil))))) bm_nil)))
    (bm_one (pm_fz (i := 3) (pm_ret (em_callTy cd_tuple (by rfl) T.n_tuple boot_tuple (am_cons (em_var 3 rfl (by first | exact Or.inl rfl | exact Or.inr (Or.inl rfl) | exact Or.inr (Or.inr rfl))) am_nil))))))))
theorem ok_law_resolved {f : Addr} {fd : FuncData} (D : TopD K mg "_law_resolved" s_law_resolved ["_law_packages_here", "_law_lock", "_law_need"] f fd) (T : Tx K mg C_BadLock C_BadPackages C_BadProject C_ShelfError) {f_law_kept : Addr} {fd_law_kept : FuncData} (D_law_kept : TopD K mg "_law_kept" s_law_kept ["_law_packages_here", "_law_lock", "_law_need"] f_law_kept fd_law_kept) (G_law_kept : FnOk P w K mg base (L2.CX P w) 4 f_law_kept fd_law_kept ["_law_packages_here", "_law_lock", "_law_need"] (spOf K mg 3 run_law_kept)) {f_law_fits : Addr} {fd_law_fits : FuncData} (D_law_fits : TopD K mg "_law_fits" s_law_fits ["_law_version_here", "_law_wanted"] f_law_fits fd_law_fits) (G_law_fits : FnOk P w K mg base (L2.CX P w) 3 f_law_fits fd_law_fits ["_law_version_here", "_law_wanted"] (spOf K mg 2 run_law_fits)) {f_law_numbers : Addr} {fd_law_numbers : FuncData} (D_law_numbers : TopD K mg "_law_numbers" s_law_numbers ["_law_version_here"] f_law_numbers fd_law_numbers) (G_law_numbers : FnOk P w K mg base (L2.CX P w) 1 f_law_numbers fd_law_numbers ["_law_version_here"] (spOf K mg 1 run_law_numbers)) : FnOk P w K mg base (L2.CX P w) 5 f fd ["_law_packages_here", "_law_lock", "_law_need"] (spOf K mg 3 run_law_resolved) :=
  fn_ok (N := N_law_resolved) (fb := b_law_resolved) D.F sc_law_resolved fun cdv A outer s H E mu0 hr => (bm_cons (pm_set (i := 3) sc_law_resolved.nd rfl (by first | exact Or.inl rfl | exact Or.inr rfl) (em_call G_law_kept (hr.mono (by decide)) (by rfl) D_law_kept.g D_law_kept.F.kp D_law_kept.b (takes_of rfl rfl rfl rfl) (am_cons (em_var 0 rfl (by first | exact Or.inl rfl | exact Or.inr (Or.inl rfl) | exact Or.inr (Or.inr rfl))) (am_cons (em_var 1 rfl (by first | exact Or.inl rfl | exact Or.inr (Or.inl rfl) | exact Or.inr (Or.inr rfl))) (am_cons (em_var 2 rfl (by first | exact Or.inl rfl | exact Or.inr (Or.inl rfl) | exact Or.inr (Or.inr rfl))) am_nil)))))
    (bm_cons (pm_if (tm_cmp od_isNot (em_var 3 rfl (by first | exact Or.inl rfl | exact Or.inr (Or.inl rfl) | exact Or.inr (Or.inr rfl))) em_none (by rfl)) (bm_one (pm_ret (em_var 3 rfl (by first | exact Or.inl rfl | exact Or.inr (Or.inl rfl) | exact Or.inr (Or.inr rfl))))) bm_nil)
    (bm_cons (pm_set (i := 4) sc_law_resolved.nd rfl (by first | exact Or.inl rfl | exact Or.inr rfl) em_none)
    (bm_cons (pm_for (passes_of rfl) rfl (im_seq (em_var 0 rfl (by first | exact Or.inl rfl | exact Or.inr (Or.inl rfl) | exact Or.inr (Or.inr rfl)))) (gm_name sc_law_resolved.nd rfl (by first | exact Or.inl rfl | exact Or.inr rfl)) (bm_one (pm_if (wm_and (tm_cmp (od_eq (hU hr)) (em_ixA (em_var 5 rfl (by first | exact Or.inl rfl | exact Or.inr (Or.inl rfl) | exact Or.inr (Or.inr rfl))) em_int (fun _ _ => rfl)) (em_ixA (em_var 2 rfl (by first | exact Or.inl rfl | exact Or.inr (Or.inl rfl) | exact Or.inr (Or.inr rfl))) em_int (fun _ _ => rfl)) (by rfl)) (wm_and1 (tm_tru (em_call G_law_fits (hr.mono (by decide)) (by rfl) D_law_fits.g D_law_fits.F.kp D_law_fits.b (takes_of rfl rfl rfl rfl) (am_cons (em_ixA (em_var 5 rfl (by first | exact Or.inl rfl | exact Or.inr (Or.inl rfl) | exact Or.inr (Or.inr rfl))) em_int (fun _ _ => rfl)) (am_cons (em_ixA (em_var 2 rfl (by first | exact Or.inl rfl | exact Or.inr (Or.inl rfl) | exact Or.inr (Or.inr rfl))) em_int (fun _ _ => rfl)) am_nil)))))).tm (bm_one (pm_if (wm_or (tm_cmp od_is (em_var 4 rfl (by first | exact Or.inl rfl | exact Or.inr (Or.inl rfl) | exact Or.inr (Or.inr rfl))) em_none (by rfl)) (wm_or1 (tm_cmp (od_lt (hU hr)) (em_call G_law_numbers (hr.mono (by decide)) (by rfl) D_law_numbers.g D_law_numbers.F.kp D_law_numbers.b (takes_of rfl rfl rfl rfl) (am_cons (em_var 4 rfl (by first | exact Or.inl rfl | exact Or.inr (Or.inl rfl) | exact Or.inr (Or.inr rfl))) am_nil)) (em_call G_law_numbers (hr.mono (by decide)) (by rfl) D_law_numbers.g D_law_numbers.F.kp D_law_numbers.b (takes_of rfl rfl rfl rfl) (am_cons (em_ixA (em_var 5 rfl (by first | exact Or.inl rfl | exact Or.inr (Or.inl rfl) | exact Or.inr (Or.inr rfl))) em_int (fun _ _ => rfl)) am_nil)) (by rfl)))).tm (bm_one (pm_set (i := 4) sc_law_resolved.nd rfl (by first | exact Or.inl rfl | exact Or.inr rfl) (em_ixA (em_var 5 rfl (by first | exact Or.inl rfl | exact Or.inr (Or.inl rfl) | exact Or.inr (Or.inr rfl))) em_int (fun _ _ => rfl)))) bm_nil)) bm_nil)))
    (bm_one (pm_ret (em_var 4 rfl (by first | exact Or.inl rfl | exact Or.inr (Or.inl rfl) | exact Or.inr (Or.inr rfl)))))))))
theorem ok_is_range {f : Addr} {fd : FuncData} (D : TopD K mg "is_range" s_is_range ["value"] f fd) (T : Tx K mg C_BadLock C_BadPackages C_BadProject C_ShelfError) {f_spans_of : Addr} {fd_spans_of : FuncData} (D_spans_of : TopD K mg "spans_of" s_spans_of ["value"] f_spans_of fd_spans_of) (G_spans_of : FnOk P w K mg base (L2.CX P w) 5 f_spans_of fd_spans_of ["value"] (spOf K mg 1 run_spans_of)) : FnOk P w K mg base (L2.CX P w) 6 f fd ["value"] (spOf K mg 1 run_is_range) :=
  fn_ok (N := N_is_range) (fb := b_is_range) D.F sc_is_range fun cdv A outer s H E mu0 hr => (bm_one (pm_ret (em_cmp od_isNot (em_call G_spans_of (hr.mono (by decide)) (by rfl) D_spans_of.g D_spans_of.F.kp D_spans_of.b (takes_of rfl rfl rfl rfl) (am_cons (em_var 0 rfl (by first | exact Or.inl rfl | exact Or.inr (Or.inl rfl) | exact Or.inr (Or.inr rfl))) am_nil)) em_none (by rfl))))
theorem ok_law_packages {f : Addr} {fd : FuncData} (D : TopD K mg "_law_packages" s_law_packages ["_law_stream_here"] f fd) (T : Tx K mg C_BadLock C_BadPackages C_BadProject C_ShelfError) {f_law_next : Addr} {fd_law_next : FuncData} (D_law_next : TopD K mg "_law_next" s_law_next ["_law_stream_here", "_law_many"] f_law_next fd_law_next) (G_law_next : FnOk P w K mg base (L2.CX P w) 1 f_law_next fd_law_next ["_law_stream_here", "_law_many"] (spOf K mg 2 run_law_next)) {f_law_version : Addr} {fd_law_version : FuncData} (D_law_version : TopD K mg "_law_version" s_law_version ["_law_stream_here"] f_law_version fd_law_version) (G_law_version : FnOk P w K mg base (L2.CX P w) 2 f_law_version fd_law_version ["_law_stream_here"] (spOf K mg 1 run_law_version)) {f_law_needs : Addr} {fd_law_needs : FuncData} (D_law_needs : TopD K mg "_law_needs" s_law_needs ["_law_stream_here", "_law_names", "_law_most"] f_law_needs fd_law_needs) (G_law_needs : FnOk P w K mg base (L2.CX P w) 5 f_law_needs fd_law_needs ["_law_stream_here", "_law_names", "_law_most"] (spOf K mg 3 run_law_needs)) : FnOk P w K mg base (L2.CX P w) 6 f fd ["_law_stream_here"] (spOf K mg 1 run_law_packages) :=
  fn_ok (N := N_law_packages) (fb := b_law_packages) D.F sc_law_packages fun cdv A outer s H E mu0 hr => (bm_cons (pm_set (i := 1) sc_law_packages.nd rfl (by first | exact Or.inl rfl | exact Or.inr rfl) (em_lst (am_cons em_str (am_cons em_str (am_cons em_str (am_cons em_str (am_cons em_str (am_cons em_str am_nil))))))))
    (bm_cons (pm_own (i := 2) sc_law_packages.nd rfl (by first | exact Or.inl rfl | exact Or.inr rfl) (fm_lst am_nil))
    (bm_cons (pm_for (passes_of rfl) rfl (im_range1 (by rfl) T.n_range (am_cons (em_callB cd_len (by rfl) T.n_len PySem.boot_len (am_cons (em_var 1 rfl (by first | exact Or.inl rfl | exact Or.inr (Or.inl rfl) | exact Or.inr (Or.inr rfl))) am_nil)) am_nil)) (gm_name sc_law_packages.nd rfl (by first | exact Or.inl rfl | exact Or.inr rfl)) (bm_cons (pm_set (i := 4) sc_law_packages.nd rfl (by first | exact Or.inl rfl | exact Or.inr rfl) (em_sl (em_var 1 rfl (by first | exact Or.inl rfl | exact Or.inr (Or.inl rfl) | exact Or.inr (Or.inr rfl))) (om_some (em_op od_add (em_var 3 rfl (by first | exact Or.inl rfl | exact Or.inr (Or.inl rfl) | exact Or.inr (Or.inr rfl))) em_int)) om_none))
    (bm_cons (pm_if (tm_cmp (od_eq (hU hr)) (em_call G_law_next (hr.mono (by decide)) (by rfl) D_law_next.g D_law_next.F.kp D_law_next.b (takes_of rfl rfl rfl rfl) (am_cons (em_var 0 rfl (by first | exact Or.inl rfl | exact Or.inr (Or.inl rfl) | exact Or.inr (Or.inr rfl))) (am_cons em_int am_nil))) em_int (by rfl)) (bm_one (pm_set (i := 4) sc_law_packages.nd rfl (by first | exact Or.inl rfl | exact Or.inr rfl) (em_op od_add (em_sl (em_var 1 rfl (by first | exact Or.inl rfl | exact Or.inr (Or.inl rfl) | exact Or.inr (Or.inr rfl))) om_none (om_some (em_var 3 rfl (by first | exact Or.inl rfl | exact Or.inr (Or.inl rfl) | exact Or.inr (Or.inr rfl))))) (em_sl (em_var 1 rfl (by first | exact Or.inl rfl | exact Or.inr (Or.inl rfl) | exact Or.inr (Or.inr rfl))) (om_some (em_op od_add (em_var 3 rfl (by first | exact Or.inl rfl | exact Or.inr (Or.inl rfl) | exact Or.inr (Or.inr rfl))) em_int)) om_none)))) bm_nil)
    (bm_cons (pm_own (i := 5) sc_law_packages.nd rfl (by first | exact Or.inl rfl | exact Or.inr rfl) (fm_lst am_nil))
    (bm_one (pm_for (passes_of rfl) rfl (im_range1 (by rfl) T.n_range (am_cons (em_op od_add em_int (em_call G_law_next (hr.mono (by decide)) (by rfl) D_law_next.g D_law_next.F.kp D_law_next.b (takes_of rfl rfl rfl rfl) (am_cons (em_var 0 rfl (by first | exact Or.inl rfl | exact Or.inr (Or.inl rfl) | exact Or.inr (Or.inr rfl))) (am_cons em_int am_nil)))) am_nil)) (gm_name sc_law_packages.nd rfl (by first | exact Or.inl rfl | exact Or.inr rfl)) (bm_cons (pm_set (i := 7) sc_law_packages.nd rfl (by first | exact Or.inl rfl | exact Or.inr rfl) (em_call G_law_version (hr.mono (by decide)) (by rfl) D_law_version.g D_law_version.F.kp D_law_version.b (takes_of rfl rfl rfl rfl) (am_cons (em_var 0 rfl (by first | exact Or.inl rfl | exact Or.inr (Or.inl rfl) | exact Or.inr (Or.inr rfl))) am_nil)))
    (bm_one (pm_if (tm_cmp (od_notIn (hU hr)) (em_var 7 rfl (by first | exact Or.inl rfl | exact Or.inr (Or.inl rfl) | exact Or.inr (Or.inr rfl))) (em_var 5 rfl (by first | exact Or.inl rfl | exact Or.inr (Or.inl rfl) | exact Or.inr (Or.inr rfl))) (by rfl)) (bm_cons (pm_app (i := 5) rfl (by first | exact Or.inl rfl | exact Or.inr (Or.inl rfl) | exact Or.inr (Or.inr rfl)) (em_var 7 rfl (by first | exact Or.inl rfl | exact Or.inr (Or.inl rfl) | exact Or.inr (Or.inr rfl))))
    (bm_cons (pm_set (i := 8) sc_law_packages.nd rfl (by first | exact Or.inl rfl | exact Or.inr rfl) (em_call G_law_needs (hr.mono (by decide)) (by rfl) D_law_needs.g D_law_needs.F.kp D_law_needs.b (takes_of rfl rfl rfl rfl) (am_cons (em_var 0 rfl (by first | exact Or.inl rfl | exact Or.inr (Or.inl rfl) | exact Or.inr (Or.inr rfl))) (am_cons (em_var 4 rfl (by first | exact Or.inl rfl | exact Or.inr (Or.inl rfl) | exact Or.inr (Or.inr rfl))) (am_cons em_int am_nil)))))
    (bm_cons (pm_set (i := 9) sc_law_packages.nd rfl (by first | exact Or.inl rfl | exact Or.inr rfl) (em_op od_add (em_lst (am_cons (em_ixA (em_var 1 rfl (by first | exact Or.inl rfl | exact Or.inr (Or.inl rfl) | exact Or.inr (Or.inr rfl))) (em_var 3 rfl (by first | exact Or.inl rfl | exact Or.inr (Or.inl rfl) | exact Or.inr (Or.inr rfl))) (fun _ _ => rfl)) am_nil)) (em_fz (fm_lcC (own := [("_law_need", 11)]) (is := [11]) rfl sc_law_packages.nd (IM.ic (im_seq (em_var 8 rfl (by first | exact Or.inl rfl | exact Or.inr (Or.inl rfl) | exact Or.inr (Or.inr rfl))))) (blkOk_by (own := [("_law_need", 11)]) (N := N_law_packages) (sc := defScope s_law_packages) (by decide +kernel)) (fun _ _ _ _ _ => (gm_name sc_law_packages.nd rfl (by first | exact Or.inl rfl | exact Or.inr rfl))) (fun _ _ _ _ _ => sm_nil) (fun _ _ _ _ _ => (em_ixA (em_var 11 rfl (by first | exact Or.inl rfl | exact Or.inr (Or.inl rfl) | exact Or.inr (Or.inr rfl))) em_int (fun _ _ => rfl))) (by decide)))))
    (bm_cons (pm_set (i := 10) sc_law_packages.nd rfl (by first | exact Or.inl rfl | exact Or.inr rfl) (em_tup am_nil))
    (bm_cons (pm_if (tm_cmp (od_eq (hU hr)) (em_call G_law_next (hr.mono (by decide)) (by rfl) D_law_next.g D_law_next.F.kp D_law_next.b (takes_of rfl rfl rfl rfl) (am_cons (em_var 0 rfl (by first | exact Or.inl rfl | exact Or.inr (Or.inl rfl) | exact Or.inr (Or.inr rfl))) (am_cons em_int am_nil))) em_int (by rfl)) (bm_one (pm_set (i := 10) sc_law_packages.nd rfl (by first | exact Or.inl rfl | exact Or.inr rfl) (em_call G_law_needs (hr.mono (by decide)) (by rfl) D_law_needs.g D_law_needs.F.kp D_law_needs.b (takes_of rfl rfl rfl rfl) (am_cons (em_var 0 rfl (by first | exact Or.inl rfl | exact Or.inr (Or.inl rfl) | exact Or.inr (Or.inr rfl))) (am_cons (em_fz (fm_lcC (own := [("_law_name", 12)]) (is := [12]) rfl sc_law_packages.nd (IM.ic (im_seq (em_var 1 rfl (by first | exact Or.inl rfl | exact Or.inr (Or.inl rfl) | exact Or.inr (Or.inr rfl))))) (blkOk_by (own := [("_law_name", 12)]) (N := N_law_packages) (sc := defScope s_law_packages) (by decide +kernel)) (fun _ _ _ _ _ => (gm_name sc_law_packages.nd rfl (by first | exact Or.inl rfl | exact Or.inr rfl))) (fun _ _ _ _ _ => (sm_one (tm_cmp (od_notIn (hU hr)) (em_var 12 rfl (by first | exact Or.inl rfl | exact Or.inr (Or.inl rfl) | exact Or.inr (Or.inr rfl))) (em_var 9 rfl (by first | exact Or.inl rfl | exact Or.inr (Or.inl rfl) | exact Or.inr (Or.inr rfl))) (by rfl)))) (fun _ _ _ _ _ => (em_var 12 rfl (by first | exact Or.inl rfl | exact Or.inr (Or.inl rfl) | exact Or.inr (Or.inr rfl)))) (by decide))) (am_cons em_int am_nil)))))) bm_nil)
    (bm_one (pm_app (i := 2) rfl (by first | exact Or.inl rfl | exact Or.inr (Or.inl rfl) | exact Or.inr (Or.inr rfl)) (em_tup (am_cons (em_ixA (em_var 1 rfl (by first | exact Or.inl rfl | exact Or.inr (Or.inl rfl) | exact Or.inr (Or.inr rfl))) (em_var 3 rfl (by first | exact Or.inl rfl | exact Or.inr (Or.inl rfl) | exact Or.inr (Or.inr rfl))) (fun _ _ => rfl)) (am_cons (em_var 7 rfl (by first | exact Or.inl rfl | exact Or.inr (Or.inl rfl) | exact Or.inr (Or.inr rfl))) (am_cons (em_var 8 rfl (by first | exact Or.inl rfl | exact Or.inr (Or.inl rfl) | exact Or.inr (Or.inr rfl))) (am_cons (em_var 10 rfl (by first | exact Or.inl rfl | exact Or.inr (Or.inl rfl) | exact Or.inr (Or.inr rfl))) am_nil)))))))))))) bm_nil)))))))))
    (bm_one (pm_fz (i := 2) (pm_ret (em_callTy cd_tuple (by rfl) T.n_tuple boot_tuple (am_cons (em_var 2 rfl (by first | exact Or.inl rfl | exact Or.inr (Or.inl rfl) | exact Or.inr (Or.inr rfl))) am_nil))))))))
theorem ok_law_project {f : Addr} {fd : FuncData} (D : TopD K mg "_law_project" s_law_project ["_law_stream_here"] f fd) (T : Tx K mg C_BadLock C_BadPackages C_BadProject C_ShelfError) {f_law_needs : Addr} {fd_law_needs : FuncData} (D_law_needs : TopD K mg "_law_needs" s_law_needs ["_law_stream_here", "_law_names", "_law_most"] f_law_needs fd_law_needs) (G_law_needs : FnOk P w K mg base (L2.CX P w) 5 f_law_needs fd_law_needs ["_law_stream_here", "_law_names", "_law_most"] (spOf K mg 3 run_law_needs)) : FnOk P w K mg base (L2.CX P w) 6 f fd ["_law_stream_here"] (spOf K mg 1 run_law_project) :=
  fn_ok (N := N_law_project) (fb := b_law_project) D.F sc_law_project fun cdv A outer s H E mu0 hr => (bm_one (pm_ret (em_call G_law_needs (hr.mono (by decide)) (by rfl) D_law_needs.g D_law_needs.F.kp D_law_needs.b (takes_of rfl rfl rfl rfl) (am_cons (em_var 0 rfl (by first | exact Or.inl rfl | exact Or.inr (Or.inl rfl) | exact Or.inr (Or.inr rfl))) (am_cons (em_lst (am_cons em_str (am_cons em_str (am_cons em_str (am_cons em_str (am_cons em_str (am_cons em_str am_nil))))))) (am_cons em_int am_nil))))))
theorem ok_law_resolve {f : Addr} {fd : FuncData} (D : TopD K mg "_law_resolve" s_law_resolve ["_law_packages_here", "_law_project_here", "_law_lock"] f fd) (T : Tx K mg C_BadLock C_BadPackages C_BadProject C_ShelfError) {f_law_resolved : Addr} {fd_law_resolved : FuncData} (D_law_resolved : TopD K mg "_law_resolved" s_law_resolved ["_law_packages_here", "_law_lock", "_law_need"] f_law_resolved fd_law_resolved) (G_law_resolved : FnOk P w K mg base (L2.CX P w) 5 f_law_resolved fd_law_resolved ["_law_packages_here", "_law_lock", "_law_need"] (spOf K mg 3 run_law_resolved)) {f_law_find : Addr} {fd_law_find : FuncData} (D_law_find : TopD K mg "_law_find" s_law_find ["_law_packages_here", "_law_name", "_law_version_here"] f_law_find fd_law_find) (G_law_find : FnOk P w K mg base (L2.CX P w) 1 f_law_find fd_law_find ["_law_packages_here", "_law_name", "_law_version_here"] (spOf K mg 3 run_law_find)) : FnOk P w K mg base (L2.CX P w) 6 f fd ["_law_packages_here", "_law_project_here", "_law_lock"] (spOf K mg 3 run_law_resolve) :=
  fn_ok (N := N_law_resolve) (fb := b_law_resolve) D.F sc_law_resolve fun cdv A outer s H E mu0 hr => (bm_cons (pm_set (i := 3) sc_law_resolve.nd rfl (by first | exact Or.inl rfl | exact Or.inr rfl) (em_fz (fm_sort (hU hr) (by rfl) T.n_sorted (em_callTy cd_list (by rfl) T.n_list boot_list (am_cons (em_var 1 rfl (by first | exact Or.inl rfl | exact Or.inr (Or.inl rfl) | exact Or.inr (Or.inr rfl))) am_nil)))))
    (bm_cons (pm_own (i := 4) sc_law_resolve.nd rfl (by first | exact Or.inl rfl | exact Or.inr rfl) (fm_lst am_nil))
    (bm_cons (pm_for (passes_of rfl) rfl (im_range1 (by rfl) T.n_range (am_cons em_int am_nil)) (gm_name sc_law_resolve.nd rfl (by first | exact Or.inl rfl | exact Or.inr rfl)) (bm_one (pm_if (tm_cmp (od_lt (hU hr)) (em_var 5 rfl (by first | exact Or.inl rfl | exact Or.inr (Or.inl rfl) | exact Or.inr (Or.inr rfl))) (em_callB cd_len (by rfl) T.n_len PySem.boot_len (am_cons (em_var 3 rfl (by first | exact Or.inl rfl | exact Or.inr (Or.inl rfl) | exact Or.inr (Or.inr rfl))) am_nil)) (by rfl)) (bm_cons (pm_set (i := 6) sc_law_resolve.nd rfl (by first | exact Or.inl rfl | exact Or.inr rfl) (em_ixA (em_var 3 rfl (by first | exact Or.inl rfl | exact Or.inr (Or.inl rfl) | exact Or.inr (Or.inr rfl))) (em_var 5 rfl (by first | exact Or.inl rfl | exact Or.inr (Or.inl rfl) | exact Or.inr (Or.inr rfl))) (fun _ _ => rfl)))
    (bm_one (pm_if (tm_cmp (od_notIn (hU hr)) (em_var 6 rfl (by first | exact Or.inl rfl | exact Or.inr (Or.inl rfl) | exact Or.inr (Or.inr rfl))) (em_fz (fm_lcC (own := [("_law_entry", 8)]) (is := [8]) rfl sc_law_resolve.nd (ic_own (em_var 4 rfl (by first | exact Or.inl rfl | exact Or.inr (Or.inl rfl) | exact Or.inr (Or.inr rfl)))) (blkOk_by (own := [("_law_entry", 8)]) (N := N_law_resolve) (sc := defScope s_law_resolve) (by decide +kernel)) (fun _ _ _ _ _ => (gm_name sc_law_resolve.nd rfl (by first | exact Or.inl rfl | exact Or.inr rfl))) (fun _ _ _ _ _ => sm_nil) (fun _ _ _ _ _ => (em_sl (em_var 8 rfl (by first | exact Or.inl rfl | exact Or.inr (Or.inl rfl) | exact Or.inr (Or.inr rfl))) om_none (om_some em_int))) (by decide))) (by rfl)) (bm_cons (pm_set (i := 7) sc_law_resolve.nd rfl (by first | exact Or.inl rfl | exact Or.inr rfl) (em_call G_law_resolved (hr.mono (by decide)) (by rfl) D_law_resolved.g D_law_resolved.F.kp D_law_resolved.b (takes_of rfl rfl rfl rfl) (am_cons (em_var 0 rfl (by first | exact Or.inl rfl | exact Or.inr (Or.inl rfl) | exact Or.inr (Or.inr rfl))) (am_cons (em_var 2 rfl (by first | exact Or.inl rfl | exact Or.inr (Or.inl rfl) | exact Or.inr (Or.inr rfl))) (am_cons (em_var 6 rfl (by first | exact Or.inl rfl | exact Or.inr (Or.inl rfl) | exact Or.inr (Or.inr rfl))) am_nil)))))
    (bm_cons (pm_if (tm_cmp od_is (em_var 7 rfl (by first | exact Or.inl rfl | exact Or.inr (Or.inl rfl) | exact Or.inr (Or.inr rfl))) em_none (by rfl)) (bm_one (pm_ret (em_var 6 rfl (by first | exact Or.inl rfl | exact Or.inr (Or.inl rfl) | exact Or.inr (Or.inr rfl))))) bm_nil)
    (bm_cons (pm_app (i := 4) rfl (by first | exact Or.inl rfl | exact Or.inr (Or.inl rfl) | exact Or.inr (Or.inr rfl)) (em_op od_add (em_var 6 rfl (by first | exact Or.inl rfl | exact Or.inr (Or.inl rfl) | exact Or.inr (Or.inr rfl))) (em_tup (am_cons (em_var 7 rfl (by first | exact Or.inl rfl | exact Or.inr (Or.inl rfl) | exact Or.inr (Or.inr rfl))) am_nil))))
    (bm_one (pm_set (i := 3) sc_law_resolve.nd rfl (by first | exact Or.inl rfl | exact Or.inr rfl) (em_op od_add (em_var 3 rfl (by first | exact Or.inl rfl | exact Or.inr (Or.inl rfl) | exact Or.inr (Or.inr rfl))) (em_fz (fm_sort (hU hr) (by rfl) T.n_sorted (em_callTy cd_list (by rfl) T.n_list boot_list (am_cons (em_ixA (em_call G_law_find (hr.mono (by decide)) (by rfl) D_law_find.g D_law_find.F.kp D_law_find.b (takes_of rfl rfl rfl rfl) (am_cons (em_var 0 rfl (by first | exact Or.inl rfl | exact Or.inr (Or.inl rfl) | exact Or.inr (Or.inr rfl))) (am_cons (em_ixA (em_var 6 rfl (by first | exact Or.inl rfl | exact Or.inr (Or.inl rfl) | exact Or.inr (Or.inr rfl))) em_int (fun _ _ => rfl)) (am_cons (em_var 7 rfl (by first | exact Or.inl rfl | exact Or.inr (Or.inl rfl) | exact Or.inr (Or.inr rfl))) am_nil)))) em_int (fun _ _ => rfl)) am_nil)))))))))) bm_nil))) bm_nil)))
    (bm_one (pm_fz (i := 4) (pm_ret (em_fz (fm_sort (hU hr) (by rfl) T.n_sorted (em_var 4 rfl (by first | exact Or.inl rfl | exact Or.inr (Or.inl rfl) | exact Or.inr (Or.inr rfl)))))))))))
theorem ok_is_dependency {f : Addr} {fd : FuncData} (D : TopD K mg "is_dependency" s_is_dependency ["value"] f fd) (T : Tx K mg C_BadLock C_BadPackages C_BadProject C_ShelfError) {f_is_name : Addr} {fd_is_name : FuncData} (D_is_name : TopD K mg "is_name" s_is_name ["value"] f_is_name fd_is_name) (G_is_name : FnOk P w K mg base (L2.CX P w) 1 f_is_name fd_is_name ["value"] (spOf K mg 1 run_is_name)) {f_is_range : Addr} {fd_is_range : FuncData} (D_is_range : TopD K mg "is_range" s_is_range ["value"] f_is_range fd_is_range) (G_is_range : FnOk P w K mg base (L2.CX P w) 6 f_is_range fd_is_range ["value"] (spOf K mg 1 run_is_range)) : FnOk P w K mg base (L2.CX P w) 7 f fd ["value"] (spOf K mg 1 run_is_dependency) :=
  fn_ok (N := N_is_dependency) (fb := b_is_dependency) D.F sc_is_dependency fun cdv A outer s H E mu0 hr => (bm_one (pm_ret (em_and (em_isi (em_var 0 rfl (by first | exact Or.inl rfl | exact Or.inr (Or.inl rfl) | exact Or.inr (Or.inr rfl))) (by decide) (by rfl) T.n_isinstance (by rfl) T.n_tuple boot_tuple) (em_and (em_cmp (od_eq (hU hr)) (em_callB cd_len (by rfl) T.n_len PySem.boot_len (am_cons (em_var 0 rfl (by first | exact Or.inl rfl | exact Or.inr (Or.inl rfl) | exact Or.inr (Or.inr rfl))) am_nil)) em_int (by rfl)) (em_and (em_call G_is_name (hr.mono (by decide)) (by rfl) D_is_name.g D_is_name.F.kp D_is_name.b (takes_of rfl rfl rfl rfl) (am_cons (em_ixA (em_var 0 rfl (by first | exact Or.inl rfl | exact Or.inr (Or.inl rfl) | exact Or.inr (Or.inr rfl))) em_int (fun _ _ => rfl)) am_nil)) (em_one (em_call G_is_range (hr.mono (by decide)) (by rfl) D_is_range.g D_is_range.F.kp D_is_range.b (takes_of rfl rfl rfl rfl) (am_cons (em_ixA (em_var 0 rfl (by first | exact Or.inl rfl | exact Or.inr (Or.inl rfl) | exact Or.inr (Or.inr rfl))) em_int (fun _ _ => rfl)) am_nil))))))))
theorem ok_law_some_lock {f : Addr} {fd : FuncData} (D : TopD K mg "_law_some_lock" s_law_some_lock ["_law_stream_here", "_law_packages_here", "_law_project_here"] f fd) (T : Tx K mg C_BadLock C_BadPackages C_BadProject C_ShelfError) {f_law_resolve : Addr} {fd_law_resolve : FuncData} (D_law_resolve : TopD K mg "_law_resolve" s_law_resolve ["_law_packages_here", "_law_project_here", "_law_lock"] f_law_resolve fd_law_resolve) (G_law_resolve : FnOk P w K mg base (L2.CX P w) 6 f_law_resolve fd_law_resolve ["_law_packages_here", "_law_project_here", "_law_lock"] (spOf K mg 3 run_law_resolve)) {f_law_next : Addr} {fd_law_next : FuncData} (D_law_next : TopD K mg "_law_next" s_law_next ["_law_stream_here", "_law_many"] f_law_next fd_law_next) (G_law_next : FnOk P w K mg base (L2.CX P w) 1 f_law_next fd_law_next ["_law_stream_here", "_law_many"] (spOf K mg 2 run_law_next)) {f_law_fits : Addr} {fd_law_fits : FuncData} (D_law_fits : TopD K mg "_law_fits" s_law_fits ["_law_version_here", "_law_wanted"] f_law_fits fd_law_fits) (G_law_fits : FnOk P w K mg base (L2.CX P w) 3 f_law_fits fd_law_fits ["_law_version_here", "_law_wanted"] (spOf K mg 2 run_law_fits)) : FnOk P w K mg base (L2.CX P w) 7 f fd ["_law_stream_here", "_law_packages_here", "_law_project_here"] (spOf K mg 3 run_law_some_lock) :=
  fn_ok (N := N_law_some_lock) (fb := b_law_some_lock) D.F sc_law_some_lock fun cdv A outer s H E mu0 hr => (bm_cons (pm_set (i := 3) sc_law_some_lock.nd rfl (by first | exact Or.inl rfl | exact Or.inr rfl) (em_call G_law_resolve (hr.mono (by decide)) (by rfl) D_law_resolve.g D_law_resolve.F.kp D_law_resolve.b (takes_of rfl rfl rfl rfl) (am_cons (em_var 1 rfl (by first | exact Or.inl rfl | exact Or.inr (Or.inl rfl) | exact Or.inr (Or.inr rfl))) (am_cons (em_var 2 rfl (by first | exact Or.inl rfl | exact Or.inr (Or.inl rfl) | exact Or.inr (Or.inr rfl))) (am_cons (em_tup am_nil) am_nil)))))
    (bm_cons (pm_if (tm_tru (em_isi (em_var 3 rfl (by first | exact Or.inl rfl | exact Or.inr (Or.inl rfl) | exact Or.inr (Or.inr rfl))) (by decide) (by rfl) T.n_isinstance (by rfl) T.n_tuple boot_tuple)) (bm_one (pm_ret (em_tup am_nil))) bm_nil)
    (bm_cons (pm_own (i := 4) sc_law_some_lock.nd rfl (by first | exact Or.inl rfl | exact Or.inr rfl) (fm_lst am_nil))
    (bm_cons (pm_for (passes_of rfl) rfl (im_seq (em_var 3 rfl (by first | exact Or.inl rfl | exact Or.inr (Or.inl rfl) | exact Or.inr (Or.inr rfl)))) (gm_tup rfl (gms_cons (gm_name sc_law_some_lock.nd rfl (by first | exact Or.inl rfl | exact Or.inr rfl)) (gms_cons (gm_name sc_law_some_lock.nd rfl (by first | exact Or.inl rfl | exact Or.inr rfl)) (gms_cons (gm_name sc_law_some_lock.nd rfl (by first | exact Or.inl rfl | exact Or.inr rfl)) gms_nil)))) (bm_one (pm_if (tm_cmp (od_gt (hU hr)) (em_call G_law_next (hr.mono (by decide)) (by rfl) D_law_next.g D_law_next.F.kp D_law_next.b (takes_of rfl rfl rfl rfl) (am_cons (em_var 0 rfl (by first | exact Or.inl rfl | exact Or.inr (Or.inl rfl) | exact Or.inr (Or.inr rfl))) (am_cons em_int am_nil))) em_int (by rfl)) (bm_cons (pm_ownLcC (i := 8) (own := [("_law_manifest", 9)]) (is := [9]) rfl sc_law_some_lock.nd rfl rfl (sw_true rfl rfl rfl (by decide +kernel)) (IM.ic (im_seq (em_var 1 rfl (by first | exact Or.inl rfl | exact Or.inr (Or.inl rfl) | exact Or.inr (Or.inr rfl))))) (blkOk_by (own := [("_law_manifest", 9)]) (N := N_law_some_lock) (sc := defScope s_law_some_lock) (by decide +kernel)) (fun _ _ _ _ _ => (gm_name sc_law_some_lock.nd rfl (by first | exact Or.inl rfl | exact Or.inr rfl))) (fun _ _ _ _ _ => (sm_one (wm_and (tm_cmp (od_eq (hU hr)) (em_ixA (em_var 9 rfl (by first | exact Or.inl rfl | exact Or.inr (Or.inl rfl) | exact Or.inr (Or.inr rfl))) em_int (fun _ _ => rfl)) (em_var 5 rfl (by first | exact Or.inl rfl | exact Or.inr (Or.inl rfl) | exact Or.inr (Or.inr rfl))) (by rfl)) (wm_and1 (tm_tru (em_call G_law_fits (hr.mono (by decide)) (by rfl) D_law_fits.g D_law_fits.F.kp D_law_fits.b takes0 (am_cons (em_ixA (em_var 9 rfl (by first | exact Or.inl rfl | exact Or.inr (Or.inl rfl) | exact Or.inr (Or.inr rfl))) em_int (fun _ _ => rfl)) (am_cons (em_var 6 rfl (by first | exact Or.inl rfl | exact Or.inr (Or.inl rfl) | exact Or.inr (Or.inr rfl))) am_nil)))))).tm)) (fun _ _ _ _ _ => (em_ixA (em_var 9 rfl (by first | exact Or.inl rfl | exact Or.inr (Or.inl rfl) | exact Or.inr (Or.inr rfl))) em_int (fun _ _ => rfl))) (by decide))
    (bm_one (pm_fz (i := 8) (pm_app (i := 4) rfl (by first | exact Or.inl rfl | exact Or.inr (Or.inl rfl) | exact Or.inr (Or.inr rfl)) (em_tup (am_cons (em_var 5 rfl (by first | exact Or.inl rfl | exact Or.inr (Or.inl rfl) | exact Or.inr (Or.inr rfl))) (am_cons (em_var 6 rfl (by first | exact Or.inl rfl | exact Or.inr (Or.inl rfl) | exact Or.inr (Or.inr rfl))) (am_cons (em_ixA (em_var 8 rfl (by first | exact Or.inl rfl | exact Or.inr (Or.inl rfl) | exact Or.inr (Or.inr rfl))) (em_call G_law_next (hr.mono (by decide)) (by rfl) D_law_next.g D_law_next.F.kp D_law_next.b (takes_of rfl rfl rfl rfl) (am_cons (em_var 0 rfl (by first | exact Or.inl rfl | exact Or.inr (Or.inl rfl) | exact Or.inr (Or.inr rfl))) (am_cons (em_callB cd_len (by rfl) T.n_len PySem.boot_len (am_cons (em_var 8 rfl (by first | exact Or.inl rfl | exact Or.inr (Or.inl rfl) | exact Or.inr (Or.inr rfl))) am_nil)) am_nil))) (fun _ _ => rfl)) am_nil)))))))) bm_nil)))
    (bm_cons (pm_fz (i := 4) (pm_if (tm_cmp (od_eq (hU hr)) (em_call G_law_next (hr.mono (by decide)) (by rfl) D_law_next.g D_law_next.F.kp D_law_next.b (takes_of rfl rfl rfl rfl) (am_cons (em_var 0 rfl (by first | exact Or.inl rfl | exact Or.inr (Or.inl rfl) | exact Or.inr (Or.inr rfl))) (am_cons em_int am_nil))) em_int (by rfl)) (bm_one (pm_set (i := 4) sc_law_some_lock.nd rfl (by first | exact Or.inl rfl | exact Or.inr rfl) (em_op od_add (em_var 4 rfl (by first | exact Or.inl rfl | exact Or.inr (Or.inl rfl) | exact Or.inr (Or.inr rfl))) (em_lst (am_cons (em_tup (am_cons em_str (am_cons em_str (am_cons em_str am_nil)))) am_nil))))) bm_nil))
    (bm_one (pm_ret (em_callTy cd_tuple (by rfl) T.n_tuple boot_tuple (am_cons (em_var 4 rfl (by first | exact Or.inl rfl | exact Or.inr (Or.inl rfl) | exact Or.inr (Or.inr rfl))) am_nil)))))))))
theorem ok_are_dependencies {f : Addr} {fd : FuncData} (D : TopD K mg "are_dependencies" s_are_dependencies ["value"] f fd) (T : Tx K mg C_BadLock C_BadPackages C_BadProject C_ShelfError) {f_is_dependency : Addr} {fd_is_dependency : FuncData} (D_is_dependency : TopD K mg "is_dependency" s_is_dependency ["value"] f_is_dependency fd_is_dependency) (G_is_dependency : FnOk P w K mg base (L2.CX P w) 7 f_is_dependency fd_is_dependency ["value"] (spOf K mg 1 run_is_dependency)) : FnOk P w K mg base (L2.CX P w) 8 f fd ["value"] (spOf K mg 1 run_are_dependencies) :=
  fn_ok (N := N_are_dependencies) (fb := b_are_dependencies) D.F sc_are_dependencies fun cdv A outer s H E mu0 hr => (bm_cons (pm_if (wm_or (tm_not (tm_tru (em_isi (em_var 0 rfl (by first | exact Or.inl rfl | exact Or.inr (Or.inl rfl) | exact Or.inr (Or.inr rfl))) (by decide) (by rfl) T.n_isinstance (by rfl) T.n_tuple boot_tuple))) (wm_or1 (tm_cmp (od_gt (hU hr)) (em_callB cd_len (by rfl) T.n_len PySem.boot_len (am_cons (em_var 0 rfl (by first | exact Or.inl rfl | exact Or.inr (Or.inl rfl) | exact Or.inr (Or.inr rfl))) am_nil)) (em_gint (by rfl) T.g_MOST_DEPENDENCIES.choose_spec) (by rfl)))).tm (bm_one (pm_ret em_bool)) bm_nil)
    (bm_one (pm_ret (em_callB (cd_all rfl) (by rfl) T.n_all boot_all (am_cons (em_fz (fm_lcC (own := [("part", 1)]) (is := [1]) rfl sc_are_dependencies.nd (IM.ic (im_seq (em_var 0 rfl (by first | exact Or.inl rfl | exact Or.inr (Or.inl rfl) | exact Or.inr (Or.inr rfl))))) (blkOk_by (own := [("part", 1)]) (N := N_are_dependencies) (sc := defScope s_are_dependencies) (by decide +kernel)) (fun _ _ _ _ _ => (gm_name sc_are_dependencies.nd rfl (by first | exact Or.inl rfl | exact Or.inr rfl))) (fun _ _ _ _ _ => sm_nil) (fun _ _ _ _ _ => (em_call G_is_dependency (hr.mono (by decide)) (by rfl) D_is_dependency.g D_is_dependency.F.kp D_is_dependency.b takes0 (am_cons (em_var 1 rfl (by first | exact Or.inl rfl | exact Or.inr (Or.inl rfl) | exact Or.inr (Or.inr rfl))) am_nil))) (by decide))) am_nil)))))
theorem ok_is_entry {f : Addr} {fd : FuncData} (D : TopD K mg "is_entry" s_is_entry ["value"] f fd) (T : Tx K mg C_BadLock C_BadPackages C_BadProject C_ShelfError) {f_is_dependency : Addr} {fd_is_dependency : FuncData} (D_is_dependency : TopD K mg "is_dependency" s_is_dependency ["value"] f_is_dependency fd_is_dependency) (G_is_dependency : FnOk P w K mg base (L2.CX P w) 7 f_is_dependency fd_is_dependency ["value"] (spOf K mg 1 run_is_dependency)) {f_is_version : Addr} {fd_is_version : FuncData} (D_is_version : TopD K mg "is_version" s_is_version ["value"] f_is_version fd_is_version) (G_is_version : FnOk P w K mg base (L2.CX P w) 3 f_is_version fd_is_version ["value"] (spOf K mg 1 run_is_version)) : FnOk P w K mg base (L2.CX P w) 8 f fd ["value"] (spOf K mg 1 run_is_entry) :=
  fn_ok (N := N_is_entry) (fb := b_is_entry) D.F sc_is_entry fun cdv A outer s H E mu0 hr => (bm_one (pm_ret (em_and (em_isi (em_var 0 rfl (by first | exact Or.inl rfl | exact Or.inr (Or.inl rfl) | exact Or.inr (Or.inr rfl))) (by decide) (by rfl) T.n_isinstance (by rfl) T.n_tuple boot_tuple) (em_and (em_cmp (od_eq (hU hr)) (em_callB cd_len (by rfl) T.n_len PySem.boot_len (am_cons (em_var 0 rfl (by first | exact Or.inl rfl | exact Or.inr (Or.inl rfl) | exact Or.inr (Or.inr rfl))) am_nil)) em_int (by rfl)) (em_and (em_call G_is_dependency (hr.mono (by decide)) (by rfl) D_is_dependency.g D_is_dependency.F.kp D_is_dependency.b (takes_of rfl rfl rfl rfl) (am_cons (em_sl (em_var 0 rfl (by first | exact Or.inl rfl | exact Or.inr (Or.inl rfl) | exact Or.inr (Or.inr rfl))) om_none (om_some em_int)) am_nil)) (em_one (em_call G_is_version (hr.mono (by decide)) (by rfl) D_is_version.g D_is_version.F.kp D_is_version.b (takes_of rfl rfl rfl rfl) (am_cons (em_ixA (em_var 0 rfl (by first | exact Or.inl rfl | exact Or.inr (Or.inl rfl) | exact Or.inr (Or.inr rfl))) em_int (fun _ _ => rfl)) am_nil))))))))
theorem ok_is_manifest {f : Addr} {fd : FuncData} (D : TopD K mg "is_manifest" s_is_manifest ["value"] f fd) (T : Tx K mg C_BadLock C_BadPackages C_BadProject C_ShelfError) {f_is_name : Addr} {fd_is_name : FuncData} (D_is_name : TopD K mg "is_name" s_is_name ["value"] f_is_name fd_is_name) (G_is_name : FnOk P w K mg base (L2.CX P w) 1 f_is_name fd_is_name ["value"] (spOf K mg 1 run_is_name)) {f_is_version : Addr} {fd_is_version : FuncData} (D_is_version : TopD K mg "is_version" s_is_version ["value"] f_is_version fd_is_version) (G_is_version : FnOk P w K mg base (L2.CX P w) 3 f_is_version fd_is_version ["value"] (spOf K mg 1 run_is_version)) {f_are_dependencies : Addr} {fd_are_dependencies : FuncData} (D_are_dependencies : TopD K mg "are_dependencies" s_are_dependencies ["value"] f_are_dependencies fd_are_dependencies) (G_are_dependencies : FnOk P w K mg base (L2.CX P w) 8 f_are_dependencies fd_are_dependencies ["value"] (spOf K mg 1 run_are_dependencies)) {f_are_different : Addr} {fd_are_different : FuncData} (D_are_different : TopD K mg "are_different" s_are_different ["values"] f_are_different fd_are_different) (G_are_different : FnOk P w K mg base (L2.CX P w) 1 f_are_different fd_are_different ["values"] (spOf K mg 1 run_are_different)) : FnOk P w K mg base (L2.CX P w) 9 f fd ["value"] (spOf K mg 1 run_is_manifest) :=
  fn_ok (N := N_is_manifest) (fb := b_is_manifest) D.F sc_is_manifest fun cdv A outer s H E mu0 hr => (bm_cons (pm_if (wm_or (tm_not (tm_tru (em_isi (em_var 0 rfl (by first | exact Or.inl rfl | exact Or.inr (Or.inl rfl) | exact Or.inr (Or.inr rfl))) (by decide) (by rfl) T.n_isinstance (by rfl) T.n_tuple boot_tuple))) (wm_or (tm_cmp (od_ne (hU hr)) (em_callB cd_len (by rfl) T.n_len PySem.boot_len (am_cons (em_var 0 rfl (by first | exact Or.inl rfl | exact Or.inr (Or.inl rfl) | exact Or.inr (Or.inr rfl))) am_nil)) em_int (by rfl)) (wm_or (tm_not (tm_tru (em_call G_is_name (hr.mono (by decide)) (by rfl) D_is_name.g D_is_name.F.kp D_is_name.b (takes_of rfl rfl rfl rfl) (am_cons (em_ixA (em_var 0 rfl (by first | exact Or.inl rfl | exact Or.inr (Or.inl rfl) | exact Or.inr (Or.inr rfl))) em_int (fun _ _ => rfl)) am_nil)))) (wm_or1 (tm_not (tm_tru (em_call G_is_version (hr.mono (by decide)) (by rfl) D_is_version.g D_is_version.F.kp D_is_version.b (takes_of rfl rfl rfl rfl) (am_cons (em_ixA (em_var 0 rfl (by first | exact Or.inl rfl | exact Or.inr (Or.inl rfl) | exact Or.inr (Or.inr rfl))) em_int (fun _ _ => rfl)) am_nil)))))))).tm (bm_one (pm_ret em_bool)) bm_nil)
    (bm_cons (pm_if (wm_or (tm_not (tm_tru (em_call G_are_dependencies (hr.mono (by decide)) (by rfl) D_are_dependencies.g D_are_dependencies.F.kp D_are_dependencies.b (takes_of rfl rfl rfl rfl) (am_cons (em_ixA (em_var 0 rfl (by first | exact Or.inl rfl | exact Or.inr (Or.inl rfl) | exact Or.inr (Or.inr rfl))) em_int (fun _ _ => rfl)) am_nil)))) (wm_or1 (tm_not (tm_tru (em_call G_are_dependencies (hr.mono (by decide)) (by rfl) D_are_dependencies.g D_are_dependencies.F.kp D_are_dependencies.b (takes_of rfl rfl rfl rfl) (am_cons (em_ixA (em_var 0 rfl (by first | exact Or.inl rfl | exact Or.inr (Or.inl rfl) | exact Or.inr (Or.inr rfl))) em_int (fun _ _ => rfl)) am_nil)))))).tm (bm_one (pm_ret em_bool)) bm_nil)
    (bm_one (pm_ret (em_call G_are_different (hr.mono (by decide)) (by rfl) D_are_different.g D_are_different.F.kp D_are_different.b (takes_of rfl rfl rfl rfl) (am_cons (em_op od_add (em_op od_add (em_lst (am_cons (em_ixA (em_var 0 rfl (by first | exact Or.inl rfl | exact Or.inr (Or.inl rfl) | exact Or.inr (Or.inr rfl))) em_int (fun _ _ => rfl)) am_nil)) (em_fz (fm_lcC (own := [("part", 1)]) (is := [1]) rfl sc_is_manifest.nd (IM.ic (im_seq (em_ixA (em_var 0 rfl (by first | exact Or.inl rfl | exact Or.inr (Or.inl rfl) | exact Or.inr (Or.inr rfl))) em_int (fun _ _ => rfl)))) (blkOk_by (own := [("part", 1)]) (N := N_is_manifest) (sc := defScope s_is_manifest) (by decide +kernel)) (fun _ _ _ _ _ => (gm_name sc_is_manifest.nd rfl (by first | exact Or.inl rfl | exact Or.inr rfl))) (fun _ _ _ _ _ => sm_nil) (fun _ _ _ _ _ => (em_ixA (em_var 1 rfl (by first | exact Or.inl rfl | exact Or.inr (Or.inl rfl) | exact Or.inr (Or.inr rfl))) em_int (fun _ _ => rfl))) (by decide)))) (em_fz (fm_lcC (own := [("part", 1)]) (is := [1]) rfl sc_is_manifest.nd (IM.ic (im_seq (em_ixA (em_var 0 rfl (by first | exact Or.inl rfl | exact Or.inr (Or.inl rfl) | exact Or.inr (Or.inr rfl))) em_int (fun _ _ => rfl)))) (blkOk_by (own := [("part", 1)]) (N := N_is_manifest) (sc := defScope s_is_manifest) (by decide +kernel)) (fun _ _ _ _ _ => (gm_name sc_is_manifest.nd rfl (by first | exact Or.inl rfl | exact Or.inr rfl))) (fun _ _ _ _ _ => sm_nil) (fun _ _ _ _ _ => (em_ixA (em_var 1 rfl (by first | exact Or.inl rfl | exact Or.inr (Or.inl rfl) | exact Or.inr (Or.inr rfl))) em_int (fun _ _ => rfl))) (by decide)))) am_nil))))))
theorem ok_check_project {f : Addr} {fd : FuncData} (D : TopD K mg "check_project" s_check_project ["value"] f fd) (T : Tx K mg C_BadLock C_BadPackages C_BadProject C_ShelfError) {f_are_dependencies : Addr} {fd_are_dependencies : FuncData} (D_are_dependencies : TopD K mg "are_dependencies" s_are_dependencies ["value"] f_are_dependencies fd_are_dependencies) (G_are_dependencies : FnOk P w K mg base (L2.CX P w) 8 f_are_dependencies fd_are_dependencies ["value"] (spOf K mg 1 run_are_dependencies)) {f_are_different : Addr} {fd_are_different : FuncData} (D_are_different : TopD K mg "are_different" s_are_different ["values"] f_are_different fd_are_different) (G_are_different : FnOk P w K mg base (L2.CX P w) 1 f_are_different fd_are_different ["values"] (spOf K mg 1 run_are_different)) : FnOk P w K mg base (L2.CX P w) 9 f fd ["value"] (spOf K mg 1 run_check_project) :=
  fn_ok (N := N_check_project) (fb := b_check_project) D.F sc_check_project fun cdv A outer s H E mu0 hr => (bm_one (pm_if (wm_or (tm_not (tm_tru (em_call G_are_dependencies (hr.mono (by decide)) (by rfl) D_are_dependencies.g D_are_dependencies.F.kp D_are_dependencies.b (takes_of rfl rfl rfl rfl) (am_cons (em_var 0 rfl (by first | exact Or.inl rfl | exact Or.inr (Or.inl rfl) | exact Or.inr (Or.inr rfl))) am_nil)))) (wm_or1 (tm_not (tm_tru (em_call G_are_different (hr.mono (by decide)) (by rfl) D_are_different.g D_are_different.F.kp D_are_different.b (takes_of rfl rfl rfl rfl) (am_cons (em_fz (fm_lcC (own := [("part", 1)]) (is := [1]) rfl sc_check_project.nd (IM.ic (im_seq (em_var 0 rfl (by first | exact Or.inl rfl | exact Or.inr (Or.inl rfl) | exact Or.inr (Or.inr rfl))))) (blkOk_by (own := [("part", 1)]) (N := N_check_project) (sc := defScope s_check_project) (by decide +kernel)) (fun _ _ _ _ _ => (gm_name sc_check_project.nd rfl (by first | exact Or.inl rfl | exact Or.inr rfl))) (fun _ _ _ _ _ => sm_nil) (fun _ _ _ _ _ => (em_ixA (em_var 1 rfl (by first | exact Or.inl rfl | exact Or.inr (Or.inl rfl) | exact Or.inr (Or.inr rfl))) em_int (fun _ _ => rfl))) (by decide))) am_nil)))))).tm (bm_one (pm_raise rfl (takes_of rfl rfl rfl rfl) PySem.F.excBase_ValueError T.x_BadProject.x T.x_BadProject.g T.x_BadProject.k (raises_own T.x_BadProject.b T.x_BadProject.t) (by rfl))) bm_nil))
theorem ok_check_lock {f : Addr} {fd : FuncData} (D : TopD K mg "check_lock" s_check_lock ["value"] f fd) (T : Tx K mg C_BadLock C_BadPackages C_BadProject C_ShelfError) {f_is_entry : Addr} {fd_is_entry : FuncData} (D_is_entry : TopD K mg "is_entry" s_is_entry ["value"] f_is_entry fd_is_entry) (G_is_entry : FnOk P w K mg base (L2.CX P w) 8 f_is_entry fd_is_entry ["value"] (spOf K mg 1 run_is_entry)) {f_are_different : Addr} {fd_are_different : FuncData} (D_are_different : TopD K mg "are_different" s_are_different ["values"] f_are_different fd_are_different) (G_are_different : FnOk P w K mg base (L2.CX P w) 1 f_are_different fd_are_different ["values"] (spOf K mg 1 run_are_different)) : FnOk P w K mg base (L2.CX P w) 9 f fd ["value"] (spOf K mg 1 run_check_lock) :=
  fn_ok (N := N_check_lock) (fb := b_check_lock) D.F sc_check_lock fun cdv A outer s H E mu0 hr => (bm_cons (pm_if (wm_or (tm_not (tm_tru (em_isi (em_var 0 rfl (by first | exact Or.inl rfl | exact Or.inr (Or.inl rfl) | exact Or.inr (Or.inr rfl))) (by decide) (by rfl) T.n_isinstance (by rfl) T.n_tuple boot_tuple))) (wm_or (tm_cmp (od_gt (hU hr)) (em_callB cd_len (by rfl) T.n_len PySem.boot_len (am_cons (em_var 0 rfl (by first | exact Or.inl rfl | exact Or.inr (Or.inl rfl) | exact Or.inr (Or.inr rfl))) am_nil)) (em_gint (by rfl) T.g_MOST_ENTRIES.choose_spec) (by rfl)) (wm_or1 (tm_not (tm_tru (em_callB (cd_all rfl) (by rfl) T.n_all boot_all (am_cons (em_fz (fm_lcC (own := [("part", 1)]) (is := [1]) rfl sc_check_lock.nd (IM.ic (im_seq (em_var 0 rfl (by first | exact Or.inl rfl | exact Or.inr (Or.inl rfl) | exact Or.inr (Or.inr rfl))))) (blkOk_by (own := [("part", 1)]) (N := N_check_lock) (sc := defScope s_check_lock) (by decide +kernel)) (fun _ _ _ _ _ => (gm_name sc_check_lock.nd rfl (by first | exact Or.inl rfl | exact Or.inr rfl))) (fun _ _ _ _ _ => sm_nil) (fun _ _ _ _ _ => (em_call G_is_entry (hr.mono (by decide)) (by rfl) D_is_entry.g D_is_entry.F.kp D_is_entry.b takes0 (am_cons (em_var 1 rfl (by first | exact Or.inl rfl | exact Or.inr (Or.inl rfl) | exact Or.inr (Or.inr rfl))) am_nil))) (by decide))) am_nil))))))).tm (bm_one (pm_raise rfl (takes_of rfl rfl rfl rfl) PySem.F.excBase_ValueError T.x_BadLock.x T.x_BadLock.g T.x_BadLock.k (raises_own T.x_BadLock.b T.x_BadLock.t) (by rfl))) bm_nil)
    (bm_one (pm_if (tm_not (tm_tru (em_call G_are_different (hr.mono (by decide)) (by rfl) D_are_different.g D_are_different.F.kp D_are_different.b (takes_of rfl rfl rfl rfl) (am_cons (em_fz (fm_lcC (own := [("part", 1)]) (is := [1]) rfl sc_check_lock.nd (IM.ic (im_seq (em_var 0 rfl (by first | exact Or.inl rfl | exact Or.inr (Or.inl rfl) | exact Or.inr (Or.inr rfl))))) (blkOk_by (own := [("part", 1)]) (N := N_check_lock) (sc := defScope s_check_lock) (by decide +kernel)) (fun _ _ _ _ _ => (gm_name sc_check_lock.nd rfl (by first | exact Or.inl rfl | exact Or.inr rfl))) (fun _ _ _ _ _ => sm_nil) (fun _ _ _ _ _ => (em_sl (em_var 1 rfl (by first | exact Or.inl rfl | exact Or.inr (Or.inl rfl) | exact Or.inr (Or.inr rfl))) om_none (om_some em_int))) (by decide))) am_nil)))) (bm_one (pm_raise rfl (takes_of rfl rfl rfl rfl) PySem.F.excBase_ValueError T.x_BadLock.x T.x_BadLock.g T.x_BadLock.k (raises_own T.x_BadLock.b T.x_BadLock.t) (by rfl))) bm_nil)))
theorem ok_are_packages {f : Addr} {fd : FuncData} (D : TopD K mg "are_packages" s_are_packages ["value"] f fd) (T : Tx K mg C_BadLock C_BadPackages C_BadProject C_ShelfError) {f_is_manifest : Addr} {fd_is_manifest : FuncData} (D_is_manifest : TopD K mg "is_manifest" s_is_manifest ["value"] f_is_manifest fd_is_manifest) (G_is_manifest : FnOk P w K mg base (L2.CX P w) 9 f_is_manifest fd_is_manifest ["value"] (spOf K mg 1 run_is_manifest)) {f_are_different : Addr} {fd_are_different : FuncData} (D_are_different : TopD K mg "are_different" s_are_different ["values"] f_are_different fd_are_different) (G_are_different : FnOk P w K mg base (L2.CX P w) 1 f_are_different fd_are_different ["values"] (spOf K mg 1 run_are_different)) : FnOk P w K mg base (L2.CX P w) 10 f fd ["value"] (spOf K mg 1 run_are_packages) :=
  fn_ok (N := N_are_packages) (fb := b_are_packages) D.F sc_are_packages fun cdv A outer s H E mu0 hr => (bm_cons (pm_if (wm_or (tm_not (tm_tru (em_isi (em_var 0 rfl (by first | exact Or.inl rfl | exact Or.inr (Or.inl rfl) | exact Or.inr (Or.inr rfl))) (by decide) (by rfl) T.n_isinstance (by rfl) T.n_tuple boot_tuple))) (wm_or (tm_cmp (od_gt (hU hr)) (em_callB cd_len (by rfl) T.n_len PySem.boot_len (am_cons (em_var 0 rfl (by first | exact Or.inl rfl | exact Or.inr (Or.inl rfl) | exact Or.inr (Or.inr rfl))) am_nil)) (em_gint (by rfl) T.g_MOST_PACKAGES.choose_spec) (by rfl)) (wm_or1 (tm_not (tm_tru (em_callB (cd_all rfl) (by rfl) T.n_all boot_all (am_cons (em_fz (fm_lcC (own := [("part", 1)]) (is := [1]) rfl sc_are_packages.nd (IM.ic (im_seq (em_var 0 rfl (by first | exact Or.inl rfl | exact Or.inr (Or.inl rfl) | exact Or.inr (Or.inr rfl))))) (blkOk_by (own := [("part", 1)]) (N := N_are_packages) (sc := defScope s_are_packages) (by decide +kernel)) (fun _ _ _ _ _ => (gm_name sc_are_packages.nd rfl (by first | exact Or.inl rfl | exact Or.inr rfl))) (fun _ _ _ _ _ => sm_nil) (fun _ _ _ _ _ => (em_call G_is_manifest (hr.mono (by decide)) (by rfl) D_is_manifest.g D_is_manifest.F.kp D_is_manifest.b takes0 (am_cons (em_var 1 rfl (by first | exact Or.inl rfl | exact Or.inr (Or.inl rfl) | exact Or.inr (Or.inr rfl))) am_nil))) (by decide))) am_nil))))))).tm (bm_one (pm_ret em_bool)) bm_nil)
    (bm_one (pm_ret (em_call G_are_different (hr.mono (by decide)) (by rfl) D_are_different.g D_are_different.F.kp D_are_different.b (takes_of rfl rfl rfl rfl) (am_cons (em_fz (fm_lcC (own := [("part", 1)]) (is := [1]) rfl sc_are_packages.nd (IM.ic (im_seq (em_var 0 rfl (by first | exact Or.inl rfl | exact Or.inr (Or.inl rfl) | exact Or.inr (Or.inr rfl))))) (blkOk_by (own := [("part", 1)]) (N := N_are_packages) (sc := defScope s_are_packages) (by decide +kernel)) (fun _ _ _ _ _ => (gm_name sc_are_packages.nd rfl (by first | exact Or.inl rfl | exact Or.inr rfl))) (fun _ _ _ _ _ => sm_nil) (fun _ _ _ _ _ => (em_sl (em_var 1 rfl (by first | exact Or.inl rfl | exact Or.inr (Or.inl rfl) | exact Or.inr (Or.inr rfl))) om_none (om_some em_int))) (by decide))) am_nil)))))
theorem ok_check_packages {f : Addr} {fd : FuncData} (D : TopD K mg "check_packages" s_check_packages ["value"] f fd) (T : Tx K mg C_BadLock C_BadPackages C_BadProject C_ShelfError) {f_are_packages : Addr} {fd_are_packages : FuncData} (D_are_packages : TopD K mg "are_packages" s_are_packages ["value"] f_are_packages fd_are_packages) (G_are_packages : FnOk P w K mg base (L2.CX P w) 10 f_are_packages fd_are_packages ["value"] (spOf K mg 1 run_are_packages)) : FnOk P w K mg base (L2.CX P w) 11 f fd ["value"] (spOf K mg 1 run_check_packages) :=
  fn_ok (N := N_check_packages) (fb := b_check_packages) D.F sc_check_packages fun cdv A outer s H E mu0 hr => (bm_one (pm_if (tm_not (tm_tru (em_call G_are_packages (hr.mono (by decide)) (by rfl) D_are_packages.g D_are_packages.F.kp D_are_packages.b (takes_of rfl rfl rfl rfl) (am_cons (em_var 0 rfl (by first | exact Or.inl rfl | exact Or.inr (Or.inl rfl) | exact Or.inr (Or.inr rfl))) am_nil)))) (bm_one (pm_raise rfl (takes_of rfl rfl rfl rfl) PySem.F.excBase_ValueError T.x_BadPackages.x T.x_BadPackages.g T.x_BadPackages.k (raises_own T.x_BadPackages.b T.x_BadPackages.t) (by rfl))) bm_nil))
theorem ok_law_kind {f : Addr} {fd : FuncData} (D : TopD K mg "_law_kind" s_law_kind ["_law_call", "_law_value"] f fd) (T : Tx K mg C_BadLock C_BadPackages C_BadProject C_ShelfError) {f_check_packages : Addr} {fd_check_packages : FuncData} (D_check_packages : TopD K mg "check_packages" s_check_packages ["value"] f_check_packages fd_check_packages) (G_check_packages : FnOk P w K mg base (L2.CX P w) 11 f_check_packages fd_check_packages ["value"] (spOf K mg 1 run_check_packages)) {f_check_project : Addr} {fd_check_project : FuncData} (D_check_project : TopD K mg "check_project" s_check_project ["value"] f_check_project fd_check_project) (G_check_project : FnOk P w K mg base (L2.CX P w) 9 f_check_project fd_check_project ["value"] (spOf K mg 1 run_check_project)) {f_check_lock : Addr} {fd_check_lock : FuncData} (D_check_lock : TopD K mg "check_lock" s_check_lock ["value"] f_check_lock fd_check_lock) (G_check_lock : FnOk P w K mg base (L2.CX P w) 9 f_check_lock fd_check_lock ["value"] (spOf K mg 1 run_check_lock)) : FnOk P w K mg base (L2.CX P w) 12 f fd ["_law_call", "_law_value"] (spOf K mg 2 run_law_kind) :=
  fn_ok (N := N_law_kind) (fb := b_law_kind) D.F sc_law_kind fun cdv A outer s H E mu0 hr => (bm_cons (pm_try sc_law_kind.nd rfl rfl (takes_of rfl rfl rfl rfl) (fun _ _ _ tk1 po1 => (bm_one (pm_if (tm_cmp (od_eq (hU hr)) (em_var 0 rfl (by first | exact Or.inl rfl | exact Or.inr (Or.inl rfl) | exact Or.inr (Or.inr rfl))) em_str (by rfl)) (bm_one (pm_expr (em_call G_check_packages (hr.mono (by decide)) (by rfl) D_check_packages.g D_check_packages.F.kp D_check_packages.b tk1 (am_cons (em_var 1 rfl (by first | exact Or.inl rfl | exact Or.inr (Or.inl rfl) | exact Or.inr (Or.inr rfl))) am_nil)))) (bm_one (pm_if (tm_cmp (od_eq (hU hr)) (em_var 0 rfl (by first | exact Or.inl rfl | exact Or.inr (Or.inl rfl) | exact Or.inr (Or.inr rfl))) em_str (by rfl)) (bm_one (pm_expr (em_call G_check_project (hr.mono (by decide)) (by rfl) D_check_project.g D_check_project.F.kp D_check_project.b tk1 (am_cons (em_var 1 rfl (by first | exact Or.inl rfl | exact Or.inr (Or.inl rfl) | exact Or.inr (Or.inr rfl))) am_nil)))) (bm_one (pm_expr (em_call G_check_lock (hr.mono (by decide)) (by rfl) D_check_lock.g D_check_lock.F.kp D_check_lock.b tk1 (am_cons (em_var 1 rfl (by first | exact Or.inl rfl | exact Or.inr (Or.inl rfl) | exact Or.inr (Or.inr rfl))) am_nil))))))))) (.named (i := 2) ⟨rfl, by decide, .inl T.e_BadPackages.g⟩ (sub_of T.rows T.e_BadPackages.g) rfl rfl (fun _ _ _ _ => (bm_one (pm_ret (em_ixA (em_lst (am_cons em_str (am_cons em_str am_nil))) (em_callTy cd_int (by rfl) T.n_int boot_int (am_cons (em_isEC T.rows T.e_ShelfError.g rfl (by first | exact Or.inl rfl | exact Or.inr (Or.inl rfl) | exact Or.inr (Or.inr rfl)) (by rfl) (by rfl) T.n_isinstance) am_nil)) (fun _ _ => rfl))))) (.named (i := 2) ⟨rfl, by decide, .inl T.e_BadProject.g⟩ (sub_of T.rows T.e_BadProject.g) rfl rfl (fun _ _ _ _ => (bm_one (pm_ret (em_ixA (em_lst (am_cons em_str (am_cons em_str am_nil))) (em_callTy cd_int (by rfl) T.n_int boot_int (am_cons (em_isEC T.rows T.e_ShelfError.g rfl (by first | exact Or.inl rfl | exact Or.inr (Or.inl rfl) | exact Or.inr (Or.inr rfl)) (by rfl) (by rfl) T.n_isinstance) am_nil)) (fun _ _ => rfl))))) (.named (i := 2) ⟨rfl, by decide, .inl T.e_BadLock.g⟩ (sub_of T.rows T.e_BadLock.g) rfl rfl (fun _ _ _ _ => (bm_one (pm_ret (em_ixA (em_lst (am_cons em_str (am_cons em_str am_nil))) (em_callTy cd_int (by rfl) T.n_int boot_int (am_cons (em_isEC T.rows T.e_ShelfError.g rfl (by first | exact Or.inl rfl | exact Or.inr (Or.inl rfl) | exact Or.inr (Or.inr rfl)) (by rfl) (by rfl) T.n_isinstance) am_nil)) (fun _ _ => rfl))))) .nil))))
    (bm_one (pm_ret em_str)))
theorem ok_law {f : Addr} {fd : FuncData} (D : TopD K mg "law" s_law ["_law_script"] f fd) (T : Tx K mg C_BadLock C_BadPackages C_BadProject C_ShelfError) {f_law_stream : Addr} {fd_law_stream : FuncData} (D_law_stream : TopD K mg "_law_stream" s_law_stream ["_law_script", "_law_first", "_law_count"] f_law_stream fd_law_stream) (G_law_stream : FnOk P w K mg base (L2.CX P w) 2 f_law_stream fd_law_stream ["_law_script", "_law_first", "_law_count"] (spOf K mg 3 run_law_stream)) {f_law_packages : Addr} {fd_law_packages : FuncData} (D_law_packages : TopD K mg "_law_packages" s_law_packages ["_law_stream_here"] f_law_packages fd_law_packages) (G_law_packages : FnOk P w K mg base (L2.CX P w) 6 f_law_packages fd_law_packages ["_law_stream_here"] (spOf K mg 1 run_law_packages)) {f_law_project : Addr} {fd_law_project : FuncData} (D_law_project : TopD K mg "_law_project" s_law_project ["_law_stream_here"] f_law_project fd_law_project) (G_law_project : FnOk P w K mg base (L2.CX P w) 6 f_law_project fd_law_project ["_law_stream_here"] (spOf K mg 1 run_law_project)) {f_law_some_lock : Addr} {fd_law_some_lock : FuncData} (D_law_some_lock : TopD K mg "_law_some_lock" s_law_some_lock ["_law_stream_here", "_law_packages_here", "_law_project_here"] f_law_some_lock fd_law_some_lock) (G_law_some_lock : FnOk P w K mg base (L2.CX P w) 7 f_law_some_lock fd_law_some_lock ["_law_stream_here", "_law_packages_here", "_law_project_here"] (spOf K mg 3 run_law_some_lock)) {f_law_kind : Addr} {fd_law_kind : FuncData} (D_law_kind : TopD K mg "_law_kind" s_law_kind ["_law_call", "_law_value"] f_law_kind fd_law_kind) (G_law_kind : FnOk P w K mg base (L2.CX P w) 12 f_law_kind fd_law_kind ["_law_call", "_law_value"] (spOf K mg 2 run_law_kind)) {f_law_same : Addr} {fd_law_same : FuncData} (D_law_same : TopD K mg "_law_same" s_law_same ["_law_actual", "_law_expected"] f_law_same fd_law_same) (G_law_same : FnOk P w K mg base (L2.CX P w) 10 f_law_same fd_law_same ["_law_actual", "_law_expected"] (spOf K mg 2 (run_law_same 8))) {f_find_package : Addr} {fd_find_package : FuncData} (D_find_package : TopD K mg "find_package" s_find_package ["packages", "name", "version"] f_find_package fd_find_package) (G_find_package : FnOk P w K mg base (L2.CX P w) 1 f_find_package fd_find_package ["packages", "name", "version"] (spOf K mg 3 run_find_package)) {f_law_next : Addr} {fd_law_next : FuncData} (D_law_next : TopD K mg "_law_next" s_law_next ["_law_stream_here", "_law_many"] f_law_next fd_law_next) (G_law_next : FnOk P w K mg base (L2.CX P w) 1 f_law_next fd_law_next ["_law_stream_here", "_law_many"] (spOf K mg 2 run_law_next)) : FnOk P w K mg base (L2.CX P w) 13 f fd ["_law_script"] (spOf K mg 1 run_law) :=
  fn_ok (N := N_law) (fb := b_law) D.F sc_law fun cdv A outer s H E mu0 hr => (bm_cons (pm_set (i := 1) sc_law.nd rfl (by first | exact Or.inl rfl | exact Or.inr rfl) (em_call G_law_stream (hr.mono (by decide)) (by rfl) D_law_stream.g D_law_stream.F.kp D_law_stream.b (takes_of rfl rfl rfl rfl) (am_cons (em_var 0 rfl (by first | exact Or.inl rfl | exact Or.inr (Or.inl rfl) | exact Or.inr (Or.inr rfl))) (am_cons em_int (am_cons em_int am_nil)))))
    (bm_cons (pm_set (i := 2) sc_law.nd rfl (by first | exact Or.inl rfl | exact Or.inr rfl) (em_call G_law_packages (hr.mono (by decide)) (by rfl) D_law_packages.g D_law_packages.F.kp D_law_packages.b (takes_of rfl rfl rfl rfl) (am_cons (em_var 1 rfl (by first | exact Or.inl rfl | exact Or.inr (Or.inl rfl) | exact Or.inr (Or.inr rfl))) am_nil)))
    (bm_cons (pm_set (i := 3) sc_law.nd rfl (by first | exact Or.inl rfl | exact Or.inr rfl) (em_call G_law_project (hr.mono (by decide)) (by rfl) D_law_project.g D_law_project.F.kp D_law_project.b (takes_of rfl rfl rfl rfl) (am_cons (em_var 1 rfl (by first | exact Or.inl rfl | exact Or.inr (Or.inl rfl) | exact Or.inr (Or.inr rfl))) am_nil)))
    (bm_cons (pm_set (i := 4) sc_law.nd rfl (by first | exact Or.inl rfl | exact Or.inr rfl) (em_call G_law_some_lock (hr.mono (by decide)) (by rfl) D_law_some_lock.g D_law_some_lock.F.kp D_law_some_lock.b (takes_of rfl rfl rfl rfl) (am_cons (em_var 1 rfl (by first | exact Or.inl rfl | exact Or.inr (Or.inl rfl) | exact Or.inr (Or.inr rfl))) (am_cons (em_var 2 rfl (by first | exact Or.inl rfl | exact Or.inr (Or.inl rfl) | exact Or.inr (Or.inr rfl))) (am_cons (em_var 3 rfl (by first | exact Or.inl rfl | exact Or.inr (Or.inl rfl) | exact Or.inr (Or.inr rfl))) am_nil)))))
    (bm_cons (pm_for (passes_of rfl) rfl (im_seq (em_lst (am_cons (em_tup (am_cons em_str (am_cons (em_var 2 rfl (by first | exact Or.inl rfl | exact Or.inr (Or.inl rfl) | exact Or.inr (Or.inr rfl))) am_nil))) (am_cons (em_tup (am_cons em_str (am_cons (em_var 3 rfl (by first | exact Or.inl rfl | exact Or.inr (Or.inl rfl) | exact Or.inr (Or.inr rfl))) am_nil))) (am_cons (em_tup (am_cons em_str (am_cons (em_var 4 rfl (by first | exact Or.inl rfl | exact Or.inr (Or.inl rfl) | exact Or.inr (Or.inr rfl))) am_nil))) am_nil))))) (gm_tup rfl (gms_cons (gm_name sc_law.nd rfl (by first | exact Or.inl rfl | exact Or.inr rfl)) (gms_cons (gm_name sc_law.nd rfl (by first | exact Or.inl rfl | exact Or.inr rfl)) gms_nil))) (bm_one (pm_if (wm_or (tm_cmp (od_ne (hU hr)) (em_call G_law_kind (hr.mono (by decide)) (by rfl) D_law_kind.g D_law_kind.F.kp D_law_kind.b (takes_of rfl rfl rfl rfl) (am_cons (em_var 5 rfl (by first | exact Or.inl rfl | exact Or.inr (Or.inl rfl) | exact Or.inr (Or.inr rfl))) (am_cons (em_var 6 rfl (by first | exact Or.inl rfl | exact Or.inr (Or.inl rfl) | exact Or.inr (Or.inr rfl))) am_nil))) em_str (by rfl)) (wm_or (tm_cmp (od_ne (hU hr)) (em_call G_law_kind (hr.mono (by decide)) (by rfl) D_law_kind.g D_law_kind.F.kp D_law_kind.b (takes_of rfl rfl rfl rfl) (am_cons (em_var 5 rfl (by first | exact Or.inl rfl | exact Or.inr (Or.inl rfl) | exact Or.inr (Or.inr rfl))) (am_cons (em_callTy cd_list (by rfl) T.n_list boot_list (am_cons (em_var 6 rfl (by first | exact Or.inl rfl | exact Or.inr (Or.inl rfl) | exact Or.inr (Or.inr rfl))) am_nil)) am_nil))) (em_var 5 rfl (by first | exact Or.inl rfl | exact Or.inr (Or.inl rfl) | exact Or.inr (Or.inr rfl))) (by rfl)) (wm_or1 (tm_cmp (od_ne (hU hr)) (em_call G_law_kind (hr.mono (by decide)) (by rfl) D_law_kind.g D_law_kind.F.kp D_law_kind.b (takes_of rfl rfl rfl rfl) (am_cons (em_var 5 rfl (by first | exact Or.inl rfl | exact Or.inr (Or.inl rfl) | exact Or.inr (Or.inr rfl))) (am_cons em_none am_nil))) (em_var 5 rfl (by first | exact Or.inl rfl | exact Or.inr (Or.inl rfl) | exact Or.inr (Or.inr rfl))) (by rfl))))).tm (bm_one (pm_ret em_bool)) bm_nil)))
    (bm_cons (pm_for (passes_of rfl) rfl (im_seq (em_var 2 rfl (by first | exact Or.inl rfl | exact Or.inr (Or.inl rfl) | exact Or.inr (Or.inr rfl)))) (gm_name sc_law.nd rfl (by first | exact Or.inl rfl | exact Or.inr rfl)) (bm_one (pm_if (tm_not (tm_tru (em_callP G_law_same (hr.mono (by decide)) (by rfl) D_law_same.g D_law_same.F.kp D_law_same.b (takes_of rfl rfl rfl rfl) (am_cons (em_call G_find_package (hr.mono (by decide)) (by rfl) D_find_package.g D_find_package.F.kp D_find_package.b (takes_of rfl rfl rfl rfl) (am_cons (em_var 2 rfl (by first | exact Or.inl rfl | exact Or.inr (Or.inl rfl) | exact Or.inr (Or.inr rfl))) (am_cons (em_ixA (em_var 7 rfl (by first | exact Or.inl rfl | exact Or.inr (Or.inl rfl) | exact Or.inr (Or.inr rfl))) em_int (fun _ _ => rfl)) (am_cons (em_ixA (em_var 7 rfl (by first | exact Or.inl rfl | exact Or.inr (Or.inl rfl) | exact Or.inr (Or.inr rfl))) em_int (fun _ _ => rfl)) am_nil)))) (am_cons (em_var 7 rfl (by first | exact Or.inl rfl | exact Or.inr (Or.inl rfl) | exact Or.inr (Or.inr rfl))) am_nil))))) (bm_one (pm_ret em_bool)) bm_nil)))
    (bm_cons (pm_if (wm_or (tm_cmp od_isNot (em_call G_find_package (hr.mono (by decide)) (by rfl) D_find_package.g D_find_package.F.kp D_find_package.b (takes_of rfl rfl rfl rfl) (am_cons (em_var 2 rfl (by first | exact Or.inl rfl | exact Or.inr (Or.inl rfl) | exact Or.inr (Or.inr rfl))) (am_cons em_str (am_cons em_str am_nil)))) em_none (by rfl)) (wm_or1 (tm_cmp od_isNot (em_call G_find_package (hr.mono (by decide)) (by rfl) D_find_package.g D_find_package.F.kp D_find_package.b (takes_of rfl rfl rfl rfl) (am_cons (em_var 2 rfl (by first | exact Or.inl rfl | exact Or.inr (Or.inl rfl) | exact Or.inr (Or.inr rfl))) (am_cons em_str (am_cons em_str am_nil)))) em_none (by rfl)))).tm (bm_one (pm_ret em_bool)) bm_nil)
    (bm_cons (pm_set (i := 8) sc_law.nd rfl (by first | exact Or.inl rfl | exact Or.inr rfl) em_str)
    (bm_cons (pm_if (wm_or (tm_cmp (od_ne (hU hr)) (em_call G_law_kind (hr.mono (by decide)) (by rfl) D_law_kind.g D_law_kind.F.kp D_law_kind.b (takes_of rfl rfl rfl rfl) (am_cons em_str (am_cons (em_tup (am_cons (em_tup (am_cons (em_var 8 rfl (by first | exact Or.inl rfl | exact Or.inr (Or.inl rfl) | exact Or.inr (Or.inr rfl))) (am_cons em_str (am_cons (em_tup (am_cons (em_tup (am_cons em_str (am_cons em_str am_nil))) am_nil)) (am_cons (em_tup (am_cons (em_tup (am_cons (em_sl (em_var 8 rfl (by first | exact Or.inl rfl | exact Or.inr (Or.inl rfl) | exact Or.inr (Or.inr rfl))) om_none (om_some em_int)) (am_cons em_str am_nil))) am_nil)) am_nil))))) am_nil)) am_nil))) em_str (by rfl)) (wm_or1 (tm_cmp (od_ne (hU hr)) (em_call G_law_kind (hr.mono (by decide)) (by rfl) D_law_kind.g D_law_kind.F.kp D_law_kind.b (takes_of rfl rfl rfl rfl) (am_cons em_str (am_cons (em_tup (am_cons (em_tup (am_cons (em_var 8 rfl (by first | exact Or.inl rfl | exact Or.inr (Or.inl rfl) | exact Or.inr (Or.inr rfl))) (am_cons em_str am_nil))) am_nil)) am_nil))) em_str (by rfl)))).tm (bm_one (pm_ret em_bool)) bm_nil)
    (bm_cons (pm_set (i := 9) sc_law.nd rfl (by first | exact Or.inl rfl | exact Or.inr rfl) (em_lst (am_cons em_str (am_cons em_str (am_cons em_str (am_cons em_str (am_cons em_str (am_cons em_str (am_cons em_str (am_cons em_none (am_cons em_int (am_cons em_str am_nil))))))))))))
    (bm_cons (pm_set (i := 10) sc_law.nd rfl (by first | exact Or.inl rfl | exact Or.inr rfl) (em_lst (am_cons (em_tup (am_cons em_str am_nil)) (am_cons (em_tup (am_cons em_str (am_cons em_str (am_cons em_str am_nil)))) (am_cons (em_lst (am_cons em_str (am_cons em_str am_nil))) (am_cons (em_tup (am_cons em_str (am_cons em_str am_nil))) (am_cons (em_tup (am_cons em_str (am_cons em_none am_nil))) (am_cons (em_tup (am_cons (em_ixA (em_var 9 rfl (by first | exact Or.inl rfl | exact Or.inr (Or.inl rfl) | exact Or.inr (Or.inr rfl))) (em_call G_law_next (hr.mono (by decide)) (by rfl) D_law_next.g D_law_next.F.kp D_law_next.b (takes_of rfl rfl rfl rfl) (am_cons (em_var 1 rfl (by first | exact Or.inl rfl | exact Or.inr (Or.inl rfl) | exact Or.inr (Or.inr rfl))) (am_cons em_int am_nil))) (fun _ _ => rfl)) (am_cons em_str am_nil))) (am_cons em_str (am_cons em_none am_nil))))))))))
    (bm_cons (pm_set (i := 11) sc_law.nd rfl (by first | exact Or.inl rfl | exact Or.inr rfl) (em_ixA (em_var 10 rfl (by first | exact Or.inl rfl | exact Or.inr (Or.inl rfl) | exact Or.inr (Or.inr rfl))) (em_call G_law_next (hr.mono (by decide)) (by rfl) D_law_next.g D_law_next.F.kp D_law_next.b (takes_of rfl rfl rfl rfl) (am_cons (em_var 1 rfl (by first | exact Or.inl rfl | exact Or.inr (Or.inl rfl) | exact Or.inr (Or.inr rfl))) (am_cons em_int am_nil))) (fun _ _ => rfl)))
    (bm_cons (pm_set (i := 12) sc_law.nd rfl (by first | exact Or.inl rfl | exact Or.inr rfl) (em_callTy cd_tuple (by rfl) T.n_tuple boot_tuple (am_cons (em_fz (fm_lcC (own := [("_law_k", 21)]) (is := [21]) rfl sc_law.nd (IM.ic (im_range1 (by rfl) T.n_range (am_cons em_int am_nil))) (blkOk_by (own := [("_law_k", 21)]) (N := N_law) (sc := defScope s_law) (by decide +kernel)) (fun _ _ _ _ _ => (gm_name sc_law.nd rfl (by first | exact Or.inl rfl | exact Or.inr rfl))) (fun _ _ _ _ _ => sm_nil) (fun _ _ _ _ _ => (em_tup (am_cons (em_ixA em_str (em_var 21 rfl (by first | exact Or.inl rfl | exact Or.inr (Or.inl rfl) | exact Or.inr (Or.inr rfl))) (fun _ _ => rfl)) (am_cons em_str am_nil)))) (by decide))) am_nil)))
    (bm_cons (pm_set (i := 13) sc_law.nd rfl (by first | exact Or.inl rfl | exact Or.inr rfl) (em_lst (am_cons (em_tup (am_cons (em_var 11 rfl (by first | exact Or.inl rfl | exact Or.inr (Or.inl rfl) | exact Or.inr (Or.inr rfl))) am_nil)) (am_cons (em_var 12 rfl (by first | exact Or.inl rfl | exact Or.inr (Or.inl rfl) | exact Or.inr (Or.inr rfl))) (am_cons (em_lst (am_cons (em_tup (am_cons em_str (am_cons em_str am_nil))) am_nil)) (am_cons em_none (am_cons (em_tup (am_cons (em_tup (am_cons em_str (am_cons em_str am_nil))) (am_cons (em_tup (am_cons em_str (am_cons em_str am_nil))) am_nil))) am_nil)))))))
    (bm_cons (pm_set (i := 14) sc_law.nd rfl (by first | exact Or.inl rfl | exact Or.inr rfl) (em_ixA (em_var 13 rfl (by first | exact Or.inl rfl | exact Or.inr (Or.inl rfl) | exact Or.inr (Or.inr rfl))) (em_call G_law_next (hr.mono (by decide)) (by rfl) D_law_next.g D_law_next.F.kp D_law_next.b (takes_of rfl rfl rfl rfl) (am_cons (em_var 1 rfl (by first | exact Or.inl rfl | exact Or.inr (Or.inl rfl) | exact Or.inr (Or.inr rfl))) (am_cons em_int am_nil))) (fun _ _ => rfl)))
    (bm_cons (pm_set (i := 15) sc_law.nd rfl (by first | exact Or.inl rfl | exact Or.inr rfl) (em_ixA (em_var 9 rfl (by first | exact Or.inl rfl | exact Or.inr (Or.inl rfl) | exact Or.inr (Or.inr rfl))) (em_call G_law_next (hr.mono (by decide)) (by rfl) D_law_next.g D_law_next.F.kp D_law_next.b (takes_of rfl rfl rfl rfl) (am_cons (em_var 1 rfl (by first | exact Or.inl rfl | exact Or.inr (Or.inl rfl) | exact Or.inr (Or.inr rfl))) (am_cons em_int am_nil))) (fun _ _ => rfl)))
    (bm_cons (pm_set (i := 16) sc_law.nd rfl (by first | exact Or.inl rfl | exact Or.inr rfl) (em_lst (am_cons (em_tup (am_cons (em_var 15 rfl (by first | exact Or.inl rfl | exact Or.inr (Or.inl rfl) | exact Or.inr (Or.inr rfl))) (am_cons em_str (am_cons (em_tup am_nil) (am_cons (em_tup am_nil) am_nil))))) (am_cons (em_tup (am_cons em_str (am_cons em_str (am_cons (em_tup am_nil) (am_cons (em_tup am_nil) am_nil))))) (am_cons (em_tup (am_cons em_str (am_cons em_str (am_cons (em_var 14 rfl (by first | exact Or.inl rfl | exact Or.inr (Or.inl rfl) | exact Or.inr (Or.inr rfl))) (am_cons (em_tup am_nil) am_nil))))) (am_cons (em_tup (am_cons em_str (am_cons em_str (am_cons (em_tup am_nil) (am_cons (em_var 14 rfl (by first | exact Or.inl rfl | exact Or.inr (Or.inl rfl) | exact Or.inr (Or.inr rfl))) am_nil))))) (am_cons (em_tup (am_cons em_str (am_cons em_str (am_cons (em_tup am_nil) am_nil)))) am_nil)))))))
    (bm_cons (pm_set (i := 16) sc_law.nd rfl (by first | exact Or.inl rfl | exact Or.inr rfl) (em_op od_add (em_var 16 rfl (by first | exact Or.inl rfl | exact Or.inr (Or.inl rfl) | exact Or.inr (Or.inr rfl))) (em_lst (am_cons (em_tup (am_cons em_str (am_cons em_str (am_cons (em_tup (am_cons (em_tup (am_cons em_str (am_cons em_str am_nil))) am_nil)) (am_cons (em_tup am_nil) am_nil))))) (am_cons (em_tup (am_cons em_str (am_cons em_str (am_cons (em_tup am_nil) (am_cons (em_tup (am_cons (em_tup (am_cons em_str (am_cons em_str am_nil))) am_nil)) am_nil))))) (am_cons (em_tup (am_cons em_str (am_cons em_str (am_cons (em_tup (am_cons (em_tup (am_cons em_str (am_cons em_str am_nil))) am_nil)) (am_cons (em_tup (am_cons (em_tup (am_cons em_str (am_cons em_str am_nil))) am_nil)) am_nil))))) am_nil))))))
    (bm_cons (pm_set (i := 16) sc_law.nd rfl (by first | exact Or.inl rfl | exact Or.inr rfl) (em_op od_add (em_var 16 rfl (by first | exact Or.inl rfl | exact Or.inr (Or.inl rfl) | exact Or.inr (Or.inr rfl))) (em_lst (am_cons (em_lst (am_cons em_str (am_cons em_str (am_cons (em_tup am_nil) (am_cons (em_tup am_nil) am_nil))))) (am_cons em_none (am_cons (em_tup (am_cons em_str (am_cons em_str (am_cons (em_tup am_nil) (am_cons (em_tup am_nil) (am_cons (em_tup am_nil) am_nil)))))) am_nil))))))
    (bm_cons (pm_if (wm_or (tm_cmp (od_ne (hU hr)) (em_call G_law_kind (hr.mono (by decide)) (by rfl) D_law_kind.g D_law_kind.F.kp D_law_kind.b (takes_of rfl rfl rfl rfl) (am_cons em_str (am_cons (em_tup (am_cons (em_ixA (em_var 16 rfl (by first | exact Or.inl rfl | exact Or.inr (Or.inl rfl) | exact Or.inr (Or.inr rfl))) (em_call G_law_next (hr.mono (by decide)) (by rfl) D_law_next.g D_law_next.F.kp D_law_next.b (takes_of rfl rfl rfl rfl) (am_cons (em_var 1 rfl (by first | exact Or.inl rfl | exact Or.inr (Or.inl rfl) | exact Or.inr (Or.inr rfl))) (am_cons em_int am_nil))) (fun _ _ => rfl)) am_nil)) am_nil))) em_str (by rfl)) (wm_or1 (tm_cmp (od_ne (hU hr)) (em_call G_law_kind (hr.mono (by decide)) (by rfl) D_law_kind.g D_law_kind.F.kp D_law_kind.b (takes_of rfl rfl rfl rfl) (am_cons em_str (am_cons (em_var 14 rfl (by first | exact Or.inl rfl | exact Or.inr (Or.inl rfl) | exact Or.inr (Or.inr rfl))) am_nil))) em_str (by rfl)))).tm (bm_one (pm_ret em_bool)) bm_nil)
    (bm_cons (pm_set (i := 17) sc_law.nd rfl (by first | exact Or.inl rfl | exact Or.inr rfl) (em_tup (am_cons (em_tup (am_cons em_str (am_cons em_str (am_cons (em_tup am_nil) (am_cons (em_tup am_nil) am_nil))))) (am_cons (em_tup (am_cons em_str (am_cons em_str (am_cons (em_tup (am_cons (em_tup (am_cons em_str (am_cons em_str am_nil))) am_nil)) (am_cons (em_tup am_nil) am_nil))))) am_nil))))
    (bm_cons (pm_set (i := 18) sc_law.nd rfl (by first | exact Or.inl rfl | exact Or.inr rfl) (em_callTy cd_tuple (by rfl) T.n_tuple boot_tuple (am_cons (em_fz (fm_lcC (own := [("_law_k", 21)]) (is := [21]) rfl sc_law.nd (IM.ic (im_range1 (by rfl) T.n_range (am_cons em_int am_nil))) (blkOk_by (own := [("_law_k", 21)]) (N := N_law) (sc := defScope s_law) (by decide +kernel)) (fun _ _ _ _ _ => (gm_name sc_law.nd rfl (by first | exact Or.inl rfl | exact Or.inr rfl))) (fun _ _ _ _ _ => sm_nil) (fun _ _ _ _ _ => (em_tup (am_cons em_str (am_cons (em_op od_add em_str (em_callTy cd_str (by rfl) T.n_str boot_str (am_cons (em_var 21 rfl (by first | exact Or.inl rfl | exact Or.inr (Or.inl rfl) | exact Or.inr (Or.inr rfl))) am_nil))) (am_cons (em_sl (em_var 12 rfl (by first | exact Or.inl rfl | exact Or.inr (Or.inl rfl) | exact Or.inr (Or.inr rfl))) om_none (om_some em_int)) (am_cons (em_tup am_nil) am_nil)))))) (by decide))) am_nil)))
    (bm_cons (pm_if (wm_or (tm_cmp (od_ne (hU hr)) (em_call G_law_kind (hr.mono (by decide)) (by rfl) D_law_kind.g D_law_kind.F.kp D_law_kind.b (takes_of rfl rfl rfl rfl) (am_cons em_str (am_cons (em_var 17 rfl (by first | exact Or.inl rfl | exact Or.inr (Or.inl rfl) | exact Or.inr (Or.inr rfl))) am_nil))) em_str (by rfl)) (wm_or (tm_cmp (od_ne (hU hr)) (em_call G_law_kind (hr.mono (by decide)) (by rfl) D_law_kind.g D_law_kind.F.kp D_law_kind.b (takes_of rfl rfl rfl rfl) (am_cons em_str (am_cons (em_var 18 rfl (by first | exact Or.inl rfl | exact Or.inr (Or.inl rfl) | exact Or.inr (Or.inr rfl))) am_nil))) em_str (by rfl)) (wm_or1 (tm_cmp (od_ne (hU hr)) (em_call G_law_kind (hr.mono (by decide)) (by rfl) D_law_kind.g D_law_kind.F.kp D_law_kind.b (takes_of rfl rfl rfl rfl) (am_cons em_str (am_cons (em_sl (em_var 18 rfl (by first | exact Or.inl rfl | exact Or.inr (Or.inl rfl) | exact Or.inr (Or.inr rfl))) om_none (om_some em_int)) am_nil))) em_str (by rfl))))).tm (bm_one (pm_ret em_bool)) bm_nil)
    (bm_cons (pm_set (i := 19) sc_law.nd rfl (by first | exact Or.inl rfl | exact Or.inr rfl) (em_lst (am_cons (em_if (wm_and (tm_tru (em_isi (em_var 11 rfl (by first | exact Or.inl rfl | exact Or.inr (Or.inl rfl) | exact Or.inr (Or.inr rfl))) (by decide) (by rfl) T.n_isinstance (by rfl) T.n_tuple boot_tuple)) (wm_and1 (tm_cmp (od_eq (hU hr)) (em_callB cd_len (by rfl) T.n_len PySem.boot_len (am_cons (em_var 11 rfl (by first | exact Or.inl rfl | exact Or.inr (Or.inl rfl) | exact Or.inr (Or.inr rfl))) am_nil)) em_int (by rfl)))).tm (em_op od_add (em_var 11 rfl (by first | exact Or.inl rfl | exact Or.inr (Or.inl rfl) | exact Or.inr (Or.inr rfl))) (em_tup (am_cons em_str am_nil))) (em_tup (am_cons em_str (am_cons em_str am_nil)))) (am_cons (em_tup (am_cons em_str (am_cons em_str (am_cons em_str am_nil)))) (am_cons (em_tup (am_cons em_str (am_cons em_str (am_cons em_str am_nil)))) (am_cons (em_lst (am_cons em_str (am_cons em_str (am_cons em_str am_nil)))) am_nil))))))
    (bm_cons (pm_set (i := 20) sc_law.nd rfl (by first | exact Or.inl rfl | exact Or.inr rfl) (em_ixA (em_var 19 rfl (by first | exact Or.inl rfl | exact Or.inr (Or.inl rfl) | exact Or.inr (Or.inr rfl))) (em_call G_law_next (hr.mono (by decide)) (by rfl) D_law_next.g D_law_next.F.kp D_law_next.b (takes_of rfl rfl rfl rfl) (am_cons (em_var 1 rfl (by first | exact Or.inl rfl | exact Or.inr (Or.inl rfl) | exact Or.inr (Or.inr rfl))) (am_cons em_int am_nil))) (fun _ _ => rfl)))
    (bm_cons (pm_set (i := 8) sc_law.nd rfl (by first | exact Or.inl rfl | exact Or.inr rfl) (em_callTy cd_tuple (by rfl) T.n_tuple boot_tuple (am_cons (em_fz (fm_lcC (own := [("_law_k", 21)]) (is := [21]) rfl sc_law.nd (IM.ic (im_range1 (by rfl) T.n_range (am_cons em_int am_nil))) (blkOk_by (own := [("_law_k", 21)]) (N := N_law) (sc := defScope s_law) (by decide +kernel)) (fun _ _ _ _ _ => (gm_name sc_law.nd rfl (by first | exact Or.inl rfl | exact Or.inr rfl))) (fun _ _ _ _ _ => sm_nil) (fun _ _ _ _ _ => (em_tup (am_cons em_str (am_cons (em_op od_add em_str (em_callTy cd_str (by rfl) T.n_str boot_str (am_cons (em_var 21 rfl (by first | exact Or.inl rfl | exact Or.inr (Or.inl rfl) | exact Or.inr (Or.inr rfl))) am_nil))) (am_cons em_str am_nil))))) (by decide))) am_nil)))
    (bm_cons (pm_if (wm_or (tm_cmp (od_ne (hU hr)) (em_call G_law_kind (hr.mono (by decide)) (by rfl) D_law_kind.g D_law_kind.F.kp D_law_kind.b (takes_of rfl rfl rfl rfl) (am_cons em_str (am_cons (em_tup (am_cons (em_var 20 rfl (by first | exact Or.inl rfl | exact Or.inr (Or.inl rfl) | exact Or.inr (Or.inr rfl))) am_nil)) am_nil))) em_str (by rfl)) (wm_or (tm_cmp (od_ne (hU hr)) (em_call G_law_kind (hr.mono (by decide)) (by rfl) D_law_kind.g D_law_kind.F.kp D_law_kind.b (takes_of rfl rfl rfl rfl) (am_cons em_str (am_cons (em_var 8 rfl (by first | exact Or.inl rfl | exact Or.inr (Or.inl rfl) | exact Or.inr (Or.inr rfl))) am_nil))) em_str (by rfl)) (wm_or1 (tm_cmp (od_ne (hU hr)) (em_call G_law_kind (hr.mono (by decide)) (by rfl) D_law_kind.g D_law_kind.F.kp D_law_kind.b (takes_of rfl rfl rfl rfl) (am_cons em_str (am_cons (em_sl (em_var 8 rfl (by first | exact Or.inl rfl | exact Or.inr (Or.inl rfl) | exact Or.inr (Or.inr rfl))) om_none (om_some em_int)) am_nil))) em_str (by rfl))))).tm (bm_one (pm_ret em_bool)) bm_nil)
    (bm_one (pm_ret (em_and (em_cmp (od_eq (hU hr)) (em_call G_law_kind (hr.mono (by decide)) (by rfl) D_law_kind.g D_law_kind.F.kp D_law_kind.b (takes_of rfl rfl rfl rfl) (am_cons em_str (am_cons (em_tup (am_cons (em_tup (am_cons em_str (am_cons em_str (am_cons em_str am_nil)))) (am_cons (em_tup (am_cons em_str (am_cons em_str (am_cons em_str am_nil)))) am_nil))) am_nil))) em_str (by rfl)) (em_one (em_cmp (od_eq (hU hr)) (em_call G_law_kind (hr.mono (by decide)) (by rfl) D_law_kind.g D_law_kind.F.kp D_law_kind.b (takes_of rfl rfl rfl rfl) (am_cons em_str (am_cons (em_sl (em_var 12 rfl (by first | exact Or.inl rfl | exact Or.inr (Or.inl rfl) | exact Or.inr (Or.inr rfl))) om_none (om_some em_int)) am_nil))) em_str (by rfl)))))))))))))))))))))))))))))))))
end
theorem all_mk {l : PySem.W.OpenLaw} {w : World} {K : PySem.W.Frag} {h : Heap} {mg : Str → Option Value} {fa f0 f1 f2 f3 f4 f5 f6 f7 f8 f9 f10 f11 f12 f13 f14 f15 f16 f17 f18 f19 f20 f21 f22 f23 f24 f25 f26 f27 f28 f29 f30 f31 f32 f33 f34 f35 f36 f37 f38 f39 f40 C_BadLock C_BadPackages C_BadProject C_ShelfError : Addr} (X : K.In h) (G : h.Ns mainGlobals mg) (hfa : mg "law" = some (.ref fa))
    {od0 an0 : Option Addr} {sl0 : Array (Option Value)} {oc0 kV0 dc0 pm0 cd0 ct0 : Value} (a0 : PySem.W.nsIn K mainGlobals "number_of" = some (some (.ref f0))) (l0 : K.lookup f0 = some ⟨oc0, od0, .func (PySem.W.fnOf "number_of" "number_of" (defArgs s_number_of) (defBody s_number_of) (defScope s_number_of) .none kV0 dc0 pm0 an0 cd0 ct0), sl0⟩) (c0 : PySem.W.codeIn K cd0 "number_of" = true) (k0 : PySem.W.keepIn K (.ref f0) = true)
    {od1 an1 : Option Addr} {sl1 : Array (Option Value)} {oc1 kV1 dc1 pm1 cd1 ct1 : Value} (a1 : PySem.W.nsIn K mainGlobals "next_major" = some (some (.ref f1))) (l1 : K.lookup f1 = some ⟨oc1, od1, .func (PySem.W.fnOf "next_major" "next_major" (defArgs s_next_major) (defBody s_next_major) (defScope s_next_major) .none kV1 dc1 pm1 an1 cd1 ct1), sl1⟩) (c1 : PySem.W.codeIn K cd1 "next_major" = true) (k1 : PySem.W.keepIn K (.ref f1) = true)
    {od2 an2 : Option Addr} {sl2 : Array (Option Value)} {oc2 kV2 dc2 pm2 cd2 ct2 : Value} (a2 : PySem.W.nsIn K mainGlobals "is_name" = some (some (.ref f2))) (l2 : K.lookup f2 = some ⟨oc2, od2, .func (PySem.W.fnOf "is_name" "is_name" (defArgs s_is_name) (defBody s_is_name) (defScope s_is_name) .none kV2 dc2 pm2 an2 cd2 ct2), sl2⟩) (c2 : PySem.W.codeIn K cd2 "is_name" = true) (k2 : PySem.W.keepIn K (.ref f2) = true)
    {od3 an3 : Option Addr} {sl3 : Array (Option Value)} {oc3 kV3 dc3 pm3 cd3 ct3 : Value} (a3 : PySem.W.nsIn K mainGlobals "are_different" = some (some (.ref f3))) (l3 : K.lookup f3 = some ⟨oc3, od3, .func (PySem.W.fnOf "are_different" "are_different" (defArgs s_are_different) (defBody s_are_different) (defScope s_are_different) .none kV3 dc3 pm3 an3 cd3 ct3), sl3⟩) (c3 : PySem.W.codeIn K cd3 "are_different" = true) (k3 : PySem.W.keepIn K (.ref f3) = true)
    {od4 an4 : Option Addr} {sl4 : Array (Option Value)} {oc4 kV4 dc4 pm4 cd4 ct4 : Value} (a4 : PySem.W.nsIn K mainGlobals "find_package" = some (some (.ref f4))) (l4 : K.lookup f4 = some ⟨oc4, od4, .func (PySem.W.fnOf "find_package" "find_package" (defArgs s_find_package) (defBody s_find_package) (defScope s_find_package) .none kV4 dc4 pm4 an4 cd4 ct4), sl4⟩) (c4 : PySem.W.codeIn K cd4 "find_package" = true) (k4 : PySem.W.keepIn K (.ref f4) = true)
    {od5 an5 : Option Addr} {sl5 : Array (Option Value)} {oc5 kV5 dc5 pm5 cd5 ct5 : Value} (a5 : PySem.W.nsIn K mainGlobals "_law_cell" = some (some (.ref f5))) (l5 : K.lookup f5 = some ⟨oc5, od5, .func (PySem.W.fnOf "_law_cell" "_law_cell" (defArgs s_law_cell) (defBody s_law_cell) (defScope s_law_cell) .none kV5 dc5 pm5 an5 cd5 ct5), sl5⟩) (c5 : PySem.W.codeIn K cd5 "_law_cell" = true) (k5 : PySem.W.keepIn K (.ref f5) = true)
    {od6 an6 : Option Addr} {sl6 : Array (Option Value)} {oc6 kV6 dc6 pm6 cd6 ct6 : Value} (a6 : PySem.W.nsIn K mainGlobals "_law_draws" = some (some (.ref f6))) (l6 : K.lookup f6 = some ⟨oc6, od6, .func (PySem.W.fnOf "_law_draws" "_law_draws" (defArgs s_law_draws) (defBody s_law_draws) (defScope s_law_draws) .none kV6 dc6 pm6 an6 cd6 ct6), sl6⟩) (c6 : PySem.W.codeIn K cd6 "_law_draws" = true) (k6 : PySem.W.keepIn K (.ref f6) = true)
    {od7 an7 : Option Addr} {sl7 : Array (Option Value)} {oc7 kV7 dc7 pm7 cd7 ct7 : Value} (a7 : PySem.W.nsIn K mainGlobals "_law_next" = some (some (.ref f7))) (l7 : K.lookup f7 = some ⟨oc7, od7, .func (PySem.W.fnOf "_law_next" "_law_next" (defArgs s_law_next) (defBody s_law_next) (defScope s_law_next) .none kV7 dc7 pm7 an7 cd7 ct7), sl7⟩) (c7 : PySem.W.codeIn K cd7 "_law_next" = true) (k7 : PySem.W.keepIn K (.ref f7) = true)
    {od8 an8 : Option Addr} {sl8 : Array (Option Value)} {oc8 kV8 dc8 pm8 cd8 ct8 : Value} (a8 : PySem.W.nsIn K mainGlobals "_law_is_integer" = some (some (.ref f8))) (l8 : K.lookup f8 = some ⟨oc8, od8, .func (PySem.W.fnOf "_law_is_integer" "_law_is_integer" (defArgs s_law_is_integer) (defBody s_law_is_integer) (defScope s_law_is_integer) .none kV8 dc8 pm8 an8 cd8 ct8), sl8⟩) (c8 : PySem.W.codeIn K cd8 "_law_is_integer" = true) (k8 : PySem.W.keepIn K (.ref f8) = true)
    {od9 an9 : Option Addr} {sl9 : Array (Option Value)} {oc9 kV9 dc9 pm9 cd9 ct9 : Value} (a9 : PySem.W.nsIn K mainGlobals "_law_numbers" = some (some (.ref f9))) (l9 : K.lookup f9 = some ⟨oc9, od9, .func (PySem.W.fnOf "_law_numbers" "_law_numbers" (defArgs s_law_numbers) (defBody s_law_numbers) (defScope s_law_numbers) .none kV9 dc9 pm9 an9 cd9 ct9), sl9⟩) (c9 : PySem.W.codeIn K cd9 "_law_numbers" = true) (k9 : PySem.W.keepIn K (.ref f9) = true)
    {od10 an10 : Option Addr} {sl10 : Array (Option Value)} {oc10 kV10 dc10 pm10 cd10 ct10 : Value} (a10 : PySem.W.nsIn K mainGlobals "_law_find" = some (some (.ref f10))) (l10 : K.lookup f10 = some ⟨oc10, od10, .func (PySem.W.fnOf "_law_find" "_law_find" (defArgs s_law_find) (defBody s_law_find) (defScope s_law_find) .none kV10 dc10 pm10 an10 cd10 ct10), sl10⟩) (c10 : PySem.W.codeIn K cd10 "_law_find" = true) (k10 : PySem.W.keepIn K (.ref f10) = true)
    {od11 an11 : Option Addr} {sl11 : Array (Option Value)} {oc11 kV11 dc11 pm11 cd11 ct11 : Value} (a11 : PySem.W.nsIn K mainGlobals "version_numbers" = some (some (.ref f11))) (l11 : K.lookup f11 = some ⟨oc11, od11, .func (PySem.W.fnOf "version_numbers" "version_numbers" (defArgs s_version_numbers) (defBody s_version_numbers) (defScope s_version_numbers) .none kV11 dc11 pm11 an11 cd11 ct11), sl11⟩) (c11 : PySem.W.codeIn K cd11 "version_numbers" = true) (k11 : PySem.W.keepIn K (.ref f11) = true)
    {od12 an12 : Option Addr} {sl12 : Array (Option Value)} {oc12 kV12 dc12 pm12 cd12 ct12 : Value} (a12 : PySem.W.nsIn K mainGlobals "_law_stream" = some (some (.ref f12))) (l12 : K.lookup f12 = some ⟨oc12, od12, .func (PySem.W.fnOf "_law_stream" "_law_stream" (defArgs s_law_stream) (defBody s_law_stream) (defScope s_law_stream) .none kV12 dc12 pm12 an12 cd12 ct12), sl12⟩) (c12 : PySem.W.codeIn K cd12 "_law_stream" = true) (k12 : PySem.W.keepIn K (.ref f12) = true)
    {od13 an13 : Option Addr} {sl13 : Array (Option Value)} {oc13 kV13 dc13 pm13 cd13 ct13 : Value} (a13 : PySem.W.nsIn K mainGlobals "_law_same" = some (some (.ref f13))) (l13 : K.lookup f13 = some ⟨oc13, od13, .func (PySem.W.fnOf "_law_same" "_law_same" (defArgs s_law_same) (defBody s_law_same) (defScope s_law_same) .none kV13 dc13 pm13 an13 cd13 ct13), sl13⟩) (c13 : PySem.W.codeIn K cd13 "_law_same" = true) (k13 : PySem.W.keepIn K (.ref f13) = true)
    {od14 an14 : Option Addr} {sl14 : Array (Option Value)} {oc14 kV14 dc14 pm14 cd14 ct14 : Value} (a14 : PySem.W.nsIn K mainGlobals "_law_version" = some (some (.ref f14))) (l14 : K.lookup f14 = some ⟨oc14, od14, .func (PySem.W.fnOf "_law_version" "_law_version" (defArgs s_law_version) (defBody s_law_version) (defScope s_law_version) .none kV14 dc14 pm14 an14 cd14 ct14), sl14⟩) (c14 : PySem.W.codeIn K cd14 "_law_version" = true) (k14 : PySem.W.keepIn K (.ref f14) = true)
    {od15 an15 : Option Addr} {sl15 : Array (Option Value)} {oc15 kV15 dc15 pm15 cd15 ct15 : Value} (a15 : PySem.W.nsIn K mainGlobals "_law_fits_one" = some (some (.ref f15))) (l15 : K.lookup f15 = some ⟨oc15, od15, .func (PySem.W.fnOf "_law_fits_one" "_law_fits_one" (defArgs s_law_fits_one) (defBody s_law_fits_one) (defScope s_law_fits_one) .none kV15 dc15 pm15 an15 cd15 ct15), sl15⟩) (c15 : PySem.W.codeIn K cd15 "_law_fits_one" = true) (k15 : PySem.W.keepIn K (.ref f15) = true)
    {od16 an16 : Option Addr} {sl16 : Array (Option Value)} {oc16 kV16 dc16 pm16 cd16 ct16 : Value} (a16 : PySem.W.nsIn K mainGlobals "span_between" = some (some (.ref f16))) (l16 : K.lookup f16 = some ⟨oc16, od16, .func (PySem.W.fnOf "span_between" "span_between" (defArgs s_span_between) (defBody s_span_between) (defScope s_span_between) .none kV16 dc16 pm16 an16 cd16 ct16), sl16⟩) (c16 : PySem.W.codeIn K cd16 "span_between" = true) (k16 : PySem.W.keepIn K (.ref f16) = true)
    {od17 an17 : Option Addr} {sl17 : Array (Option Value)} {oc17 kV17 dc17 pm17 cd17 ct17 : Value} (a17 : PySem.W.nsIn K mainGlobals "is_version" = some (some (.ref f17))) (l17 : K.lookup f17 = some ⟨oc17, od17, .func (PySem.W.fnOf "is_version" "is_version" (defArgs s_is_version) (defBody s_is_version) (defScope s_is_version) .none kV17 dc17 pm17 an17 cd17 ct17), sl17⟩) (c17 : PySem.W.codeIn K cd17 "is_version" = true) (k17 : PySem.W.keepIn K (.ref f17) = true)
    {od18 an18 : Option Addr} {sl18 : Array (Option Value)} {oc18 kV18 dc18 pm18 cd18 ct18 : Value} (a18 : PySem.W.nsIn K mainGlobals "_law_alternative" = some (some (.ref f18))) (l18 : K.lookup f18 = some ⟨oc18, od18, .func (PySem.W.fnOf "_law_alternative" "_law_alternative" (defArgs s_law_alternative) (defBody s_law_alternative) (defScope s_law_alternative) .none kV18 dc18 pm18 an18 cd18 ct18), sl18⟩) (c18 : PySem.W.codeIn K cd18 "_law_alternative" = true) (k18 : PySem.W.keepIn K (.ref f18) = true)
    {od19 an19 : Option Addr} {sl19 : Array (Option Value)} {oc19 kV19 dc19 pm19 cd19 ct19 : Value} (a19 : PySem.W.nsIn K mainGlobals "_law_fits" = some (some (.ref f19))) (l19 : K.lookup f19 = some ⟨oc19, od19, .func (PySem.W.fnOf "_law_fits" "_law_fits" (defArgs s_law_fits) (defBody s_law_fits) (defScope s_law_fits) .none kV19 dc19 pm19 an19 cd19 ct19), sl19⟩) (c19 : PySem.W.codeIn K cd19 "_law_fits" = true) (k19 : PySem.W.keepIn K (.ref f19) = true)
    {od20 an20 : Option Addr} {sl20 : Array (Option Value)} {oc20 kV20 dc20 pm20 cd20 ct20 : Value} (a20 : PySem.W.nsIn K mainGlobals "span_of" = some (some (.ref f20))) (l20 : K.lookup f20 = some ⟨oc20, od20, .func (PySem.W.fnOf "span_of" "span_of" (defArgs s_span_of) (defBody s_span_of) (defScope s_span_of) .none kV20 dc20 pm20 an20 cd20 ct20), sl20⟩) (c20 : PySem.W.codeIn K cd20 "span_of" = true) (k20 : PySem.W.keepIn K (.ref f20) = true)
    {od21 an21 : Option Addr} {sl21 : Array (Option Value)} {oc21 kV21 dc21 pm21 cd21 ct21 : Value} (a21 : PySem.W.nsIn K mainGlobals "_law_range" = some (some (.ref f21))) (l21 : K.lookup f21 = some ⟨oc21, od21, .func (PySem.W.fnOf "_law_range" "_law_range" (defArgs s_law_range) (defBody s_law_range) (defScope s_law_range) .none kV21 dc21 pm21 an21 cd21 ct21), sl21⟩) (c21 : PySem.W.codeIn K cd21 "_law_range" = true) (k21 : PySem.W.keepIn K (.ref f21) = true)
    {od22 an22 : Option Addr} {sl22 : Array (Option Value)} {oc22 kV22 dc22 pm22 cd22 ct22 : Value} (a22 : PySem.W.nsIn K mainGlobals "_law_kept" = some (some (.ref f22))) (l22 : K.lookup f22 = some ⟨oc22, od22, .func (PySem.W.fnOf "_law_kept" "_law_kept" (defArgs s_law_kept) (defBody s_law_kept) (defScope s_law_kept) .none kV22 dc22 pm22 an22 cd22 ct22), sl22⟩) (c22 : PySem.W.codeIn K cd22 "_law_kept" = true) (k22 : PySem.W.keepIn K (.ref f22) = true)
    {od23 an23 : Option Addr} {sl23 : Array (Option Value)} {oc23 kV23 dc23 pm23 cd23 ct23 : Value} (a23 : PySem.W.nsIn K mainGlobals "spans_of" = some (some (.ref f23))) (l23 : K.lookup f23 = some ⟨oc23, od23, .func (PySem.W.fnOf "spans_of" "spans_of" (defArgs s_spans_of) (defBody s_spans_of) (defScope s_spans_of) .none kV23 dc23 pm23 an23 cd23 ct23), sl23⟩) (c23 : PySem.W.codeIn K cd23 "spans_of" = true) (k23 : PySem.W.keepIn K (.ref f23) = true)
    {od24 an24 : Option Addr} {sl24 : Array (Option Value)} {oc24 kV24 dc24 pm24 cd24 ct24 : Value} (a24 : PySem.W.nsIn K mainGlobals "_law_needs" = some (some (.ref f24))) (l24 : K.lookup f24 = some ⟨oc24, od24, .func (PySem.W.fnOf "_law_needs" "_law_needs" (defArgs s_law_needs) (defBody s_law_needs) (defScope s_law_needs) .none kV24 dc24 pm24 an24 cd24 ct24), sl24⟩) (c24 : PySem.W.codeIn K cd24 "_law_needs" = true) (k24 : PySem.W.keepIn K (.ref f24) = true)
    {od25 an25 : Option Addr} {sl25 : Array (Option Value)} {oc25 kV25 dc25 pm25 cd25 ct25 : Value} (a25 : PySem.W.nsIn K mainGlobals "_law_resolved" = some (some (.ref f25))) (l25 : K.lookup f25 = some ⟨oc25, od25, .func (PySem.W.fnOf "_law_resolved" "_law_resolved" (defArgs s_law_resolved) (defBody s_law_resolved) (defScope s_law_resolved) .none kV25 dc25 pm25 an25 cd25 ct25), sl25⟩) (c25 : PySem.W.codeIn K cd25 "_law_resolved" = true) (k25 : PySem.W.keepIn K (.ref f25) = true)
    {od26 an26 : Option Addr} {sl26 : Array (Option Value)} {oc26 kV26 dc26 pm26 cd26 ct26 : Value} (a26 : PySem.W.nsIn K mainGlobals "is_range" = some (some (.ref f26))) (l26 : K.lookup f26 = some ⟨oc26, od26, .func (PySem.W.fnOf "is_range" "is_range" (defArgs s_is_range) (defBody s_is_range) (defScope s_is_range) .none kV26 dc26 pm26 an26 cd26 ct26), sl26⟩) (c26 : PySem.W.codeIn K cd26 "is_range" = true) (k26 : PySem.W.keepIn K (.ref f26) = true)
    {od27 an27 : Option Addr} {sl27 : Array (Option Value)} {oc27 kV27 dc27 pm27 cd27 ct27 : Value} (a27 : PySem.W.nsIn K mainGlobals "_law_packages" = some (some (.ref f27))) (l27 : K.lookup f27 = some ⟨oc27, od27, .func (PySem.W.fnOf "_law_packages" "_law_packages" (defArgs s_law_packages) (defBody s_law_packages) (defScope s_law_packages) .none kV27 dc27 pm27 an27 cd27 ct27), sl27⟩) (c27 : PySem.W.codeIn K cd27 "_law_packages" = true) (k27 : PySem.W.keepIn K (.ref f27) = true)
    {od28 an28 : Option Addr} {sl28 : Array (Option Value)} {oc28 kV28 dc28 pm28 cd28 ct28 : Value} (a28 : PySem.W.nsIn K mainGlobals "_law_project" = some (some (.ref f28))) (l28 : K.lookup f28 = some ⟨oc28, od28, .func (PySem.W.fnOf "_law_project" "_law_project" (defArgs s_law_project) (defBody s_law_project) (defScope s_law_project) .none kV28 dc28 pm28 an28 cd28 ct28), sl28⟩) (c28 : PySem.W.codeIn K cd28 "_law_project" = true) (k28 : PySem.W.keepIn K (.ref f28) = true)
    {od29 an29 : Option Addr} {sl29 : Array (Option Value)} {oc29 kV29 dc29 pm29 cd29 ct29 : Value} (a29 : PySem.W.nsIn K mainGlobals "_law_resolve" = some (some (.ref f29))) (l29 : K.lookup f29 = some ⟨oc29, od29, .func (PySem.W.fnOf "_law_resolve" "_law_resolve" (defArgs s_law_resolve) (defBody s_law_resolve) (defScope s_law_resolve) .none kV29 dc29 pm29 an29 cd29 ct29), sl29⟩) (c29 : PySem.W.codeIn K cd29 "_law_resolve" = true) (k29 : PySem.W.keepIn K (.ref f29) = true)
    {od30 an30 : Option Addr} {sl30 : Array (Option Value)} {oc30 kV30 dc30 pm30 cd30 ct30 : Value} (a30 : PySem.W.nsIn K mainGlobals "is_dependency" = some (some (.ref f30))) (l30 : K.lookup f30 = some ⟨oc30, od30, .func (PySem.W.fnOf "is_dependency" "is_dependency" (defArgs s_is_dependency) (defBody s_is_dependency) (defScope s_is_dependency) .none kV30 dc30 pm30 an30 cd30 ct30), sl30⟩) (c30 : PySem.W.codeIn K cd30 "is_dependency" = true) (k30 : PySem.W.keepIn K (.ref f30) = true)
    {od31 an31 : Option Addr} {sl31 : Array (Option Value)} {oc31 kV31 dc31 pm31 cd31 ct31 : Value} (a31 : PySem.W.nsIn K mainGlobals "_law_some_lock" = some (some (.ref f31))) (l31 : K.lookup f31 = some ⟨oc31, od31, .func (PySem.W.fnOf "_law_some_lock" "_law_some_lock" (defArgs s_law_some_lock) (defBody s_law_some_lock) (defScope s_law_some_lock) .none kV31 dc31 pm31 an31 cd31 ct31), sl31⟩) (c31 : PySem.W.codeIn K cd31 "_law_some_lock" = true) (k31 : PySem.W.keepIn K (.ref f31) = true)
    {od32 an32 : Option Addr} {sl32 : Array (Option Value)} {oc32 kV32 dc32 pm32 cd32 ct32 : Value} (a32 : PySem.W.nsIn K mainGlobals "are_dependencies" = some (some (.ref f32))) (l32 : K.lookup f32 = some ⟨oc32, od32, .func (PySem.W.fnOf "are_dependencies" "are_dependencies" (defArgs s_are_dependencies) (defBody s_are_dependencies) (defScope s_are_dependencies) .none kV32 dc32 pm32 an32 cd32 ct32), sl32⟩) (c32 : PySem.W.codeIn K cd32 "are_dependencies" = true) (k32 : PySem.W.keepIn K (.ref f32) = true)
    {od33 an33 : Option Addr} {sl33 : Array (Option Value)} {oc33 kV33 dc33 pm33 cd33 ct33 : Value} (a33 : PySem.W.nsIn K mainGlobals "is_entry" = some (some (.ref f33))) (l33 : K.lookup f33 = some ⟨oc33, od33, .func (PySem.W.fnOf "is_entry" "is_entry" (defArgs s_is_entry) (defBody s_is_entry) (defScope s_is_entry) .none kV33 dc33 pm33 an33 cd33 ct33), sl33⟩) (c33 : PySem.W.codeIn K cd33 "is_entry" = true) (k33 : PySem.W.keepIn K (.ref f33) = true)
    {od34 an34 : Option Addr} {sl34 : Array (Option Value)} {oc34 kV34 dc34 pm34 cd34 ct34 : Value} (a34 : PySem.W.nsIn K mainGlobals "is_manifest" = some (some (.ref f34))) (l34 : K.lookup f34 = some ⟨oc34, od34, .func (PySem.W.fnOf "is_manifest" "is_manifest" (defArgs s_is_manifest) (defBody s_is_manifest) (defScope s_is_manifest) .none kV34 dc34 pm34 an34 cd34 ct34), sl34⟩) (c34 : PySem.W.codeIn K cd34 "is_manifest" = true) (k34 : PySem.W.keepIn K (.ref f34) = true)
    {od35 an35 : Option Addr} {sl35 : Array (Option Value)} {oc35 kV35 dc35 pm35 cd35 ct35 : Value} (a35 : PySem.W.nsIn K mainGlobals "check_project" = some (some (.ref f35))) (l35 : K.lookup f35 = some ⟨oc35, od35, .func (PySem.W.fnOf "check_project" "check_project" (defArgs s_check_project) (defBody s_check_project) (defScope s_check_project) .none kV35 dc35 pm35 an35 cd35 ct35), sl35⟩) (c35 : PySem.W.codeIn K cd35 "check_project" = true) (k35 : PySem.W.keepIn K (.ref f35) = true)
    {od36 an36 : Option Addr} {sl36 : Array (Option Value)} {oc36 kV36 dc36 pm36 cd36 ct36 : Value} (a36 : PySem.W.nsIn K mainGlobals "check_lock" = some (some (.ref f36))) (l36 : K.lookup f36 = some ⟨oc36, od36, .func (PySem.W.fnOf "check_lock" "check_lock" (defArgs s_check_lock) (defBody s_check_lock) (defScope s_check_lock) .none kV36 dc36 pm36 an36 cd36 ct36), sl36⟩) (c36 : PySem.W.codeIn K cd36 "check_lock" = true) (k36 : PySem.W.keepIn K (.ref f36) = true)
    {od37 an37 : Option Addr} {sl37 : Array (Option Value)} {oc37 kV37 dc37 pm37 cd37 ct37 : Value} (a37 : PySem.W.nsIn K mainGlobals "are_packages" = some (some (.ref f37))) (l37 : K.lookup f37 = some ⟨oc37, od37, .func (PySem.W.fnOf "are_packages" "are_packages" (defArgs s_are_packages) (defBody s_are_packages) (defScope s_are_packages) .none kV37 dc37 pm37 an37 cd37 ct37), sl37⟩) (c37 : PySem.W.codeIn K cd37 "are_packages" = true) (k37 : PySem.W.keepIn K (.ref f37) = true)
    {od38 an38 : Option Addr} {sl38 : Array (Option Value)} {oc38 kV38 dc38 pm38 cd38 ct38 : Value} (a38 : PySem.W.nsIn K mainGlobals "check_packages" = some (some (.ref f38))) (l38 : K.lookup f38 = some ⟨oc38, od38, .func (PySem.W.fnOf "check_packages" "check_packages" (defArgs s_check_packages) (defBody s_check_packages) (defScope s_check_packages) .none kV38 dc38 pm38 an38 cd38 ct38), sl38⟩) (c38 : PySem.W.codeIn K cd38 "check_packages" = true) (k38 : PySem.W.keepIn K (.ref f38) = true)
    {od39 an39 : Option Addr} {sl39 : Array (Option Value)} {oc39 kV39 dc39 pm39 cd39 ct39 : Value} (a39 : PySem.W.nsIn K mainGlobals "_law_kind" = some (some (.ref f39))) (l39 : K.lookup f39 = some ⟨oc39, od39, .func (PySem.W.fnOf "_law_kind" "_law_kind" (defArgs s_law_kind) (defBody s_law_kind) (defScope s_law_kind) .none kV39 dc39 pm39 an39 cd39 ct39), sl39⟩) (c39 : PySem.W.codeIn K cd39 "_law_kind" = true) (k39 : PySem.W.keepIn K (.ref f39) = true)
    {od40 an40 : Option Addr} {sl40 : Array (Option Value)} {oc40 kV40 dc40 pm40 cd40 ct40 : Value} (a40 : PySem.W.nsIn K mainGlobals "law" = some (some (.ref f40))) (l40 : K.lookup f40 = some ⟨oc40, od40, .func (PySem.W.fnOf "law" "law" (defArgs s_law) (defBody s_law) (defScope s_law) .none kV40 dc40 pm40 an40 cd40 ct40), sl40⟩) (c40 : PySem.W.codeIn K cd40 "law" = true) (k40 : PySem.W.keepIn K (.ref f40) = true)
    (z_abs : PySem.W.nsIn K mainGlobals "abs" = some none)
    (z_all : PySem.W.nsIn K mainGlobals "all" = some none)
    (z_bool : PySem.W.nsIn K mainGlobals "bool" = some none)
    (z_int : PySem.W.nsIn K mainGlobals "int" = some none)
    (z_isinstance : PySem.W.nsIn K mainGlobals "isinstance" = some none)
    (z_len : PySem.W.nsIn K mainGlobals "len" = some none)
    (z_list : PySem.W.nsIn K mainGlobals "list" = some none)
    (z_range : PySem.W.nsIn K mainGlobals "range" = some none)
    (z_sorted : PySem.W.nsIn K mainGlobals "sorted" = some none)
    (z_str : PySem.W.nsIn K mainGlobals "str" = some none)
    (z_tuple : PySem.W.nsIn K mainGlobals "tuple" = some none)
    {t_DIGITS : Tok} (y_DIGITS : PySem.W.nsIn K mainGlobals "DIGITS" = some (some (.str "0123456789" t_DIGITS)))
    {t_LETTERS : Tok} (y_LETTERS : PySem.W.nsIn K mainGlobals "LETTERS" = some (some (.str "abcdefghijklmnopqrstuvwxyz" t_LETTERS)))
    {t_MOST_ALTERNATIVES : Tok} (y_MOST_ALTERNATIVES : PySem.W.nsIn K mainGlobals "MOST_ALTERNATIVES" = some (some (.int 3 t_MOST_ALTERNATIVES)))
    {t_MOST_DEPENDENCIES : Tok} (y_MOST_DEPENDENCIES : PySem.W.nsIn K mainGlobals "MOST_DEPENDENCIES" = some (some (.int 6 t_MOST_DEPENDENCIES)))
    {t_MOST_ENTRIES : Tok} (y_MOST_ENTRIES : PySem.W.nsIn K mainGlobals "MOST_ENTRIES" = some (some (.int 102 t_MOST_ENTRIES)))
    {t_MOST_PACKAGES : Tok} (y_MOST_PACKAGES : PySem.W.nsIn K mainGlobals "MOST_PACKAGES" = some (some (.int 16 t_MOST_PACKAGES)))
    {t_OTHERS : Tok} (y_OTHERS : PySem.W.nsIn K mainGlobals "OTHERS" = some (some (.str "abcdefghijklmnopqrstuvwxyz0123456789-" t_OTHERS)))
    (xa_BadLock : PySem.W.nsIn K mainGlobals "BadLock" = some (some (.ref C_BadLock))) (xb_BadLock : PySem.W.excIn K C_BadLock [.type "ValueError", .type "Exception", .type "BaseException", .type "object"] "ValueError.__new__" = true) (xc_BadLock : PySem.W.keepIn K (.ref C_BadLock) = true) (xd_BadLock : PySem.W.subIn K (.ref C_BadLock) (.type "BaseException") = some true) (xe_BadLock : PySem.W.typeIn K (.ref C_BadLock) = some (.type "type"))
    (xa_BadPackages : PySem.W.nsIn K mainGlobals "BadPackages" = some (some (.ref C_BadPackages))) (xb_BadPackages : PySem.W.excIn K C_BadPackages [.type "ValueError", .type "Exception", .type "BaseException", .type "object"] "ValueError.__new__" = true) (xc_BadPackages : PySem.W.keepIn K (.ref C_BadPackages) = true) (xd_BadPackages : PySem.W.subIn K (.ref C_BadPackages) (.type "BaseException") = some true) (xe_BadPackages : PySem.W.typeIn K (.ref C_BadPackages) = some (.type "type"))
    (xa_BadProject : PySem.W.nsIn K mainGlobals "BadProject" = some (some (.ref C_BadProject))) (xb_BadProject : PySem.W.excIn K C_BadProject [.type "ValueError", .type "Exception", .type "BaseException", .type "object"] "ValueError.__new__" = true) (xc_BadProject : PySem.W.keepIn K (.ref C_BadProject) = true) (xd_BadProject : PySem.W.subIn K (.ref C_BadProject) (.type "BaseException") = some true) (xe_BadProject : PySem.W.typeIn K (.ref C_BadProject) = some (.type "type"))
    (q1_BadPackages : PySem.W.findIn K (.ref C_BadPackages) "__getattribute__" = some (some (.builtin "BaseException.__getattribute__"))) (q2_BadPackages : PySem.W.findIn K (.ref C_BadPackages) "__getattr__" = some none) (q3_BadPackages : PySem.W.subIn K (.ref C_BadPackages) (.type "BaseException") = some true) (q4_BadPackages : PySem.W.hasDictIn K C_BadPackages = true) (q5_BadPackages : PySem.W.findIn K (.ref C_BadPackages) "__class__" = some (some (.builtin "object.__class__"))) (q6_BadPackages : PySem.W.mroIn K C_BadPackages (.type "object") = some true) (q7_BadPackages : PySem.W.typeIn K (.ref C_BadPackages) = some (.type "type")) (q8_BadPackages : PySem.W.subIn K (.ref C_BadPackages) (.ref C_BadPackages) = some true)
    (q1_BadProject : PySem.W.findIn K (.ref C_BadProject) "__getattribute__" = some (some (.builtin "BaseException.__getattribute__"))) (q2_BadProject : PySem.W.findIn K (.ref C_BadProject) "__getattr__" = some none) (q3_BadProject : PySem.W.subIn K (.ref C_BadProject) (.type "BaseException") = some true) (q4_BadProject : PySem.W.hasDictIn K C_BadProject = true) (q5_BadProject : PySem.W.findIn K (.ref C_BadProject) "__class__" = some (some (.builtin "object.__class__"))) (q6_BadProject : PySem.W.mroIn K C_BadProject (.type "object") = some true) (q7_BadProject : PySem.W.typeIn K (.ref C_BadProject) = some (.type "type")) (q8_BadProject : PySem.W.subIn K (.ref C_BadProject) (.ref C_BadProject) = some true)
    (q1_BadLock : PySem.W.findIn K (.ref C_BadLock) "__getattribute__" = some (some (.builtin "BaseException.__getattribute__"))) (q2_BadLock : PySem.W.findIn K (.ref C_BadLock) "__getattr__" = some none) (q3_BadLock : PySem.W.subIn K (.ref C_BadLock) (.type "BaseException") = some true) (q4_BadLock : PySem.W.hasDictIn K C_BadLock = true) (q5_BadLock : PySem.W.findIn K (.ref C_BadLock) "__class__" = some (some (.builtin "object.__class__"))) (q6_BadLock : PySem.W.mroIn K C_BadLock (.type "object") = some true) (q7_BadLock : PySem.W.typeIn K (.ref C_BadLock) = some (.type "type")) (q8_BadLock : PySem.W.subIn K (.ref C_BadLock) (.ref C_BadLock) = some true)
    (xa_ShelfError : PySem.W.nsIn K mainGlobals "ShelfError" = some (some (.ref C_ShelfError)))
    (q1_ShelfError : PySem.W.findIn K (.ref C_ShelfError) "__getattribute__" = some (some (.builtin "BaseException.__getattribute__"))) (q2_ShelfError : PySem.W.findIn K (.ref C_ShelfError) "__getattr__" = some none) (q3_ShelfError : PySem.W.subIn K (.ref C_ShelfError) (.type "BaseException") = some true) (q4_ShelfError : PySem.W.hasDictIn K C_ShelfError = true) (q5_ShelfError : PySem.W.findIn K (.ref C_ShelfError) "__class__" = some (some (.builtin "object.__class__"))) (q6_ShelfError : PySem.W.mroIn K C_ShelfError (.type "object") = some true) (q7_ShelfError : PySem.W.typeIn K (.ref C_ShelfError) = some (.type "type")) (q8_ShelfError : PySem.W.subIn K (.ref C_ShelfError) (.ref C_ShelfError) = some true)
    (u1 : PySem.W.specialIn K (.builtin "object.__class__") "__get__" = some (some (.builtin "getset_descriptor.__get__"))) (u2 : PySem.W.takesIn K (.builtin "object.__class__") = some true)
    (s_BadPackages_BadPackages : PySem.W.subIn K (.ref C_BadPackages) (.ref C_BadPackages) = some true)
    (s_BadPackages_BadProject : PySem.W.subIn K (.ref C_BadPackages) (.ref C_BadProject) = some false)
    (s_BadPackages_BadLock : PySem.W.subIn K (.ref C_BadPackages) (.ref C_BadLock) = some false)
    (s_BadPackages_ShelfError : PySem.W.subIn K (.ref C_BadPackages) (.ref C_ShelfError) = some true)
    (s_BadProject_BadPackages : PySem.W.subIn K (.ref C_BadProject) (.ref C_BadPackages) = some false)
    (s_BadProject_BadProject : PySem.W.subIn K (.ref C_BadProject) (.ref C_BadProject) = some true)
    (s_BadProject_BadLock : PySem.W.subIn K (.ref C_BadProject) (.ref C_BadLock) = some false)
    (s_BadProject_ShelfError : PySem.W.subIn K (.ref C_BadProject) (.ref C_ShelfError) = some true)
    (s_BadLock_BadPackages : PySem.W.subIn K (.ref C_BadLock) (.ref C_BadPackages) = some false)
    (s_BadLock_BadProject : PySem.W.subIn K (.ref C_BadLock) (.ref C_BadProject) = some false)
    (s_BadLock_BadLock : PySem.W.subIn K (.ref C_BadLock) (.ref C_BadLock) = some true)
    (s_BadLock_ShelfError : PySem.W.subIn K (.ref C_BadLock) (.ref C_ShelfError) = some true)
    : ∃ fd : FuncData, (∀ (s : Shared) (v : Value), BindsTo s fd ⟨[v], []⟩ [("_law_script", v)]) ∧ ∀ base : Heap, K.In base → base.Ns mainGlobals mg → FnOk l.prog w K mg base (L2.CX l.prog w) 13 fa fd ["_law_script"] (spOf K mg 1 run_law) := by
  have e := hfa.symm.trans (PySem.W.mg_of X G a40)
  have e : fa = f40 := by cases e; rfl
  subst e
  have E_BadPackages : EX K mg "BadPackages" C_BadPackages := ⟨PySem.W.mg_of X G xa_BadPackages, ⟨q1_BadPackages, q2_BadPackages, q3_BadPackages, q4_BadPackages, q5_BadPackages, u1, u2, q6_BadPackages⟩, q7_BadPackages, q8_BadPackages⟩
  have E_BadProject : EX K mg "BadProject" C_BadProject := ⟨PySem.W.mg_of X G xa_BadProject, ⟨q1_BadProject, q2_BadProject, q3_BadProject, q4_BadProject, q5_BadProject, u1, u2, q6_BadProject⟩, q7_BadProject, q8_BadProject⟩
  have E_BadLock : EX K mg "BadLock" C_BadLock := ⟨PySem.W.mg_of X G xa_BadLock, ⟨q1_BadLock, q2_BadLock, q3_BadLock, q4_BadLock, q5_BadLock, u1, u2, q6_BadLock⟩, q7_BadLock, q8_BadLock⟩
  have E_ShelfError : EX K mg "ShelfError" C_ShelfError := ⟨PySem.W.mg_of X G xa_ShelfError, ⟨q1_ShelfError, q2_ShelfError, q3_ShelfError, q4_ShelfError, q5_ShelfError, u1, u2, q6_ShelfError⟩, q7_ShelfError, q8_ShelfError⟩
  have R : ∀ r ∈ exRows, ExRow.ok K mg r := by
    intro r hr
    unfold exRows at hr
    rcases List.mem_cons.mp hr with rfl | hr
    · exact row_cls E_BadPackages E_BadPackages s_BadPackages_BadPackages
    rcases List.mem_cons.mp hr with rfl | hr
    · exact row_cls E_BadPackages E_BadProject s_BadPackages_BadProject
    rcases List.mem_cons.mp hr with rfl | hr
    · exact row_cls E_BadPackages E_BadLock s_BadPackages_BadLock
    rcases List.mem_cons.mp hr with rfl | hr
    · exact row_cls E_BadPackages E_ShelfError s_BadPackages_ShelfError
    rcases List.mem_cons.mp hr with rfl | hr
    · exact row_cls E_BadProject E_BadPackages s_BadProject_BadPackages
    rcases List.mem_cons.mp hr with rfl | hr
    · exact row_cls E_BadProject E_BadProject s_BadProject_BadProject
    rcases List.mem_cons.mp hr with rfl | hr
    · exact row_cls E_BadProject E_BadLock s_BadProject_BadLock
    rcases List.mem_cons.mp hr with rfl | hr
    · exact row_cls E_BadProject E_ShelfError s_BadProject_ShelfError
    rcases List.mem_cons.mp hr with rfl | hr
    · exact row_cls E_BadLock E_BadPackages s_BadLock_BadPackages
    rcases List.mem_cons.mp hr with rfl | hr
    · exact row_cls E_BadLock E_BadProject s_BadLock_BadProject
    rcases List.mem_cons.mp hr with rfl | hr
    · exact row_cls E_BadLock E_BadLock s_BadLock_BadLock
    rcases List.mem_cons.mp hr with rfl | hr
    · exact row_cls E_BadLock E_ShelfError s_BadLock_ShelfError
    cases hr
  have T : Tx K mg C_BadLock C_BadPackages C_BadProject C_ShelfError := ⟨PySem.W.mg_none_of X G z_abs, PySem.W.mg_none_of X G z_all, PySem.W.mg_none_of X G z_bool, PySem.W.mg_none_of X G z_int, PySem.W.mg_none_of X G z_isinstance, PySem.W.mg_none_of X G z_len, PySem.W.mg_none_of X G z_list, PySem.W.mg_none_of X G z_range, PySem.W.mg_none_of X G z_sorted, PySem.W.mg_none_of X G z_str, PySem.W.mg_none_of X G z_tuple, ⟨_, PySem.W.mg_of X G y_DIGITS⟩, ⟨_, PySem.W.mg_of X G y_LETTERS⟩, ⟨_, PySem.W.mg_of X G y_MOST_ALTERNATIVES⟩, ⟨_, PySem.W.mg_of X G y_MOST_DEPENDENCIES⟩, ⟨_, PySem.W.mg_of X G y_MOST_ENTRIES⟩, ⟨_, PySem.W.mg_of X G y_MOST_PACKAGES⟩, ⟨_, PySem.W.mg_of X G y_OTHERS⟩, ⟨PySem.W.mg_of X G xa_BadLock, xb_BadLock, xc_BadLock, xd_BadLock, xe_BadLock⟩, ⟨PySem.W.mg_of X G xa_BadPackages, xb_BadPackages, xc_BadPackages, xd_BadPackages, xe_BadPackages⟩, ⟨PySem.W.mg_of X G xa_BadProject, xb_BadProject, xc_BadProject, xd_BadProject, xe_BadProject⟩, E_BadPackages, E_BadProject, E_BadLock, E_ShelfError, R⟩
  have F0 := fun_mk (st := s_number_of) l0 c0 k0
  have D_number_of : TopD K mg "number_of" s_number_of ["text"] f0 _ := ⟨F0, F0.binds (ps := ["text"]) fun _ _ _ _ _ _ us hl => match us, hl with | [_], _ => rfl, PySem.W.mg_of X G a0⟩
  have F1 := fun_mk (st := s_next_major) l1 c1 k1
  have D_next_major : TopD K mg "next_major" s_next_major ["numbers"] f1 _ := ⟨F1, F1.binds (ps := ["numbers"]) fun _ _ _ _ _ _ us hl => match us, hl with | [_], _ => rfl, PySem.W.mg_of X G a1⟩
  have F2 := fun_mk (st := s_is_name) l2 c2 k2
  have D_is_name : TopD K mg "is_name" s_is_name ["value"] f2 _ := ⟨F2, F2.binds (ps := ["value"]) fun _ _ _ _ _ _ us hl => match us, hl with | [_], _ => rfl, PySem.W.mg_of X G a2⟩
  have F3 := fun_mk (st := s_are_different) l3 c3 k3
  have D_are_different : TopD K mg "are_different" s_are_different ["values"] f3 _ := ⟨F3, F3.binds (ps := ["values"]) fun _ _ _ _ _ _ us hl => match us, hl with | [_], _ => rfl, PySem.W.mg_of X G a3⟩
  have F4 := fun_mk (st := s_find_package) l4 c4 k4
  have D_find_package : TopD K mg "find_package" s_find_package ["packages", "name", "version"] f4 _ := ⟨F4, F4.binds (ps := ["packages", "name", "version"]) fun _ _ _ _ _ _ us hl => match us, hl with | [_, _, _], _ => rfl, PySem.W.mg_of X G a4⟩
  have F5 := fun_mk (st := s_law_cell) l5 c5 k5
  have D_law_cell : TopD K mg "_law_cell" s_law_cell ["_law_script", "_law_k"] f5 _ := ⟨F5, F5.binds (ps := ["_law_script", "_law_k"]) fun _ _ _ _ _ _ us hl => match us, hl with | [_, _], _ => rfl, PySem.W.mg_of X G a5⟩
  have F6 := fun_mk (st := s_law_draws) l6 c6 k6
  have D_law_draws : TopD K mg "_law_draws" s_law_draws ["_law_cell_here", "_law_count"] f6 _ := ⟨F6, F6.binds (ps := ["_law_cell_here", "_law_count"]) fun _ _ _ _ _ _ us hl => match us, hl with | [_, _], _ => rfl, PySem.W.mg_of X G a6⟩
  have F7 := fun_mk (st := s_law_next) l7 c7 k7
  have D_law_next : TopD K mg "_law_next" s_law_next ["_law_stream_here", "_law_many"] f7 _ := ⟨F7, F7.binds (ps := ["_law_stream_here", "_law_many"]) fun _ _ _ _ _ _ us hl => match us, hl with | [_, _], _ => rfl, PySem.W.mg_of X G a7⟩
  have F8 := fun_mk (st := s_law_is_integer) l8 c8 k8
  have D_law_is_integer : TopD K mg "_law_is_integer" s_law_is_integer ["_law_actual"] f8 _ := ⟨F8, F8.binds (ps := ["_law_actual"]) fun _ _ _ _ _ _ us hl => match us, hl with | [_], _ => rfl, PySem.W.mg_of X G a8⟩
  have F9 := fun_mk (st := s_law_numbers) l9 c9 k9
  have D_law_numbers : TopD K mg "_law_numbers" s_law_numbers ["_law_version_here"] f9 _ := ⟨F9, F9.binds (ps := ["_law_version_here"]) fun _ _ _ _ _ _ us hl => match us, hl with | [_], _ => rfl, PySem.W.mg_of X G a9⟩
  have F10 := fun_mk (st := s_law_find) l10 c10 k10
  have D_law_find : TopD K mg "_law_find" s_law_find ["_law_packages_here", "_law_name", "_law_version_here"] f10 _ := ⟨F10, F10.binds (ps := ["_law_packages_here", "_law_name", "_law_version_here"]) fun _ _ _ _ _ _ us hl => match us, hl with | [_, _, _], _ => rfl, PySem.W.mg_of X G a10⟩
  have F11 := fun_mk (st := s_version_numbers) l11 c11 k11
  have D_version_numbers : TopD K mg "version_numbers" s_version_numbers ["value"] f11 _ := ⟨F11, F11.binds (ps := ["value"]) fun _ _ _ _ _ _ us hl => match us, hl with | [_], _ => rfl, PySem.W.mg_of X G a11⟩
  have F12 := fun_mk (st := s_law_stream) l12 c12 k12
  have D_law_stream : TopD K mg "_law_stream" s_law_stream ["_law_script", "_law_first", "_law_count"] f12 _ := ⟨F12, F12.binds (ps := ["_law_script", "_law_first", "_law_count"]) fun _ _ _ _ _ _ us hl => match us, hl with | [_, _, _], _ => rfl, PySem.W.mg_of X G a12⟩
  have F13 := fun_mk (st := s_law_same) l13 c13 k13
  have D_law_same : TopD K mg "_law_same" s_law_same ["_law_actual", "_law_expected"] f13 _ := ⟨F13, F13.binds (ps := ["_law_actual", "_law_expected"]) fun _ _ _ _ _ _ us hl => match us, hl with | [_, _], _ => rfl, PySem.W.mg_of X G a13⟩
  have F14 := fun_mk (st := s_law_version) l14 c14 k14
  have D_law_version : TopD K mg "_law_version" s_law_version ["_law_stream_here"] f14 _ := ⟨F14, F14.binds (ps := ["_law_stream_here"]) fun _ _ _ _ _ _ us hl => match us, hl with | [_], _ => rfl, PySem.W.mg_of X G a14⟩
  have F15 := fun_mk (st := s_law_fits_one) l15 c15 k15
  have D_law_fits_one : TopD K mg "_law_fits_one" s_law_fits_one ["_law_numbers_here", "_law_text"] f15 _ := ⟨F15, F15.binds (ps := ["_law_numbers_here", "_law_text"]) fun _ _ _ _ _ _ us hl => match us, hl with | [_, _], _ => rfl, PySem.W.mg_of X G a15⟩
  have F16 := fun_mk (st := s_span_between) l16 c16 k16
  have D_span_between : TopD K mg "span_between" s_span_between ["text"] f16 _ := ⟨F16, F16.binds (ps := ["text"]) fun _ _ _ _ _ _ us hl => match us, hl with | [_], _ => rfl, PySem.W.mg_of X G a16⟩
  have F17 := fun_mk (st := s_is_version) l17 c17 k17
  have D_is_version : TopD K mg "is_version" s_is_version ["value"] f17 _ := ⟨F17, F17.binds (ps := ["value"]) fun _ _ _ _ _ _ us hl => match us, hl with | [_], _ => rfl, PySem.W.mg_of X G a17⟩
  have F18 := fun_mk (st := s_law_alternative) l18 c18 k18
  have D_law_alternative : TopD K mg "_law_alternative" s_law_alternative ["_law_stream_here"] f18 _ := ⟨F18, F18.binds (ps := ["_law_stream_here"]) fun _ _ _ _ _ _ us hl => match us, hl with | [_], _ => rfl, PySem.W.mg_of X G a18⟩
  have F19 := fun_mk (st := s_law_fits) l19 c19 k19
  have D_law_fits : TopD K mg "_law_fits" s_law_fits ["_law_version_here", "_law_wanted"] f19 _ := ⟨F19, F19.binds (ps := ["_law_version_here", "_law_wanted"]) fun _ _ _ _ _ _ us hl => match us, hl with | [_, _], _ => rfl, PySem.W.mg_of X G a19⟩
  have F20 := fun_mk (st := s_span_of) l20 c20 k20
  have D_span_of : TopD K mg "span_of" s_span_of ["text"] f20 _ := ⟨F20, F20.binds (ps := ["text"]) fun _ _ _ _ _ _ us hl => match us, hl with | [_], _ => rfl, PySem.W.mg_of X G a20⟩
  have F21 := fun_mk (st := s_law_range) l21 c21 k21
  have D_law_range : TopD K mg "_law_range" s_law_range ["_law_stream_here"] f21 _ := ⟨F21, F21.binds (ps := ["_law_stream_here"]) fun _ _ _ _ _ _ us hl => match us, hl with | [_], _ => rfl, PySem.W.mg_of X G a21⟩
  have F22 := fun_mk (st := s_law_kept) l22 c22 k22
  have D_law_kept : TopD K mg "_law_kept" s_law_kept ["_law_packages_here", "_law_lock", "_law_need"] f22 _ := ⟨F22, F22.binds (ps := ["_law_packages_here", "_law_lock", "_law_need"]) fun _ _ _ _ _ _ us hl => match us, hl with | [_, _, _], _ => rfl, PySem.W.mg_of X G a22⟩
  have F23 := fun_mk (st := s_spans_of) l23 c23 k23
  have D_spans_of : TopD K mg "spans_of" s_spans_of ["value"] f23 _ := ⟨F23, F23.binds (ps := ["value"]) fun _ _ _ _ _ _ us hl => match us, hl with | [_], _ => rfl, PySem.W.mg_of X G a23⟩
  have F24 := fun_mk (st := s_law_needs) l24 c24 k24
  have D_law_needs : TopD K mg "_law_needs" s_law_needs ["_law_stream_here", "_law_names", "_law_most"] f24 _ := ⟨F24, F24.binds (ps := ["_law_stream_here", "_law_names", "_law_most"]) fun _ _ _ _ _ _ us hl => match us, hl with | [_, _, _], _ => rfl, PySem.W.mg_of X G a24⟩
  have F25 := fun_mk (st := s_law_resolved) l25 c25 k25
  have D_law_resolved : TopD K mg "_law_resolved" s_law_resolved ["_law_packages_here", "_law_lock", "_law_need"] f25 _ := ⟨F25, F25.binds (ps := ["_law_packages_here", "_law_lock", "_law_need"]) fun _ _ _ _ _ _ us hl => match us, hl with | [_, _, _], _ => rfl, PySem.W.mg_of X G a25⟩
  have F26 := fun_mk (st := s_is_range) l26 c26 k26
  have D_is_range : TopD K mg "is_range" s_is_range ["value"] f26 _ := ⟨F26, F26.binds (ps := ["value"]) fun _ _ _ _ _ _ us hl => match us, hl with | [_], _ => rfl, PySem.W.mg_of X G a26⟩
  have F27 := fun_mk (st := s_law_packages) l27 c27 k27
  have D_law_packages : TopD K mg "_law_packages" s_law_packages ["_law_stream_here"] f27 _ := ⟨F27, F27.binds (ps := ["_law_stream_here"]) fun _ _ _ _ _ _ us hl => match us, hl with | [_], _ => rfl, PySem.W.mg_of X G a27⟩
  have F28 := fun_mk (st := s_law_project) l28 c28 k28
  have D_law_project : TopD K mg "_law_project" s_law_project ["_law_stream_here"] f28 _ := ⟨F28, F28.binds (ps := ["_law_stream_here"]) fun _ _ _ _ _ _ us hl => match us, hl with | [_], _ => rfl, PySem.W.mg_of X G a28⟩
  have F29 := fun_mk (st := s_law_resolve) l29 c29 k29
  have D_law_resolve : TopD K mg "_law_resolve" s_law_resolve ["_law_packages_here", "_law_project_here", "_law_lock"] f29 _ := ⟨F29, F29.binds (ps := ["_law_packages_here", "_law_project_here", "_law_lock"]) fun _ _ _ _ _ _ us hl => match us, hl with | [_, _, _], _ => rfl, PySem.W.mg_of X G a29⟩
  have F30 := fun_mk (st := s_is_dependency) l30 c30 k30
  have D_is_dependency : TopD K mg "is_dependency" s_is_dependency ["value"] f30 _ := ⟨F30, F30.binds (ps := ["value"]) fun _ _ _ _ _ _ us hl => match us, hl with | [_], _ => rfl, PySem.W.mg_of X G a30⟩
  have F31 := fun_mk (st := s_law_some_lock) l31 c31 k31
  have D_law_some_lock : TopD K mg "_law_some_lock" s_law_some_lock ["_law_stream_here", "_law_packages_here", "_law_project_here"] f31 _ := ⟨F31, F31.binds (ps := ["_law_stream_here", "_law_packages_here", "_law_project_here"]) fun _ _ _ _ _ _ us hl => match us, hl with | [_, _, _], _ => rfl, PySem.W.mg_of X G a31⟩
  have F32 := fun_mk (st := s_are_dependencies) l32 c32 k32
  have D_are_dependencies : TopD K mg "are_dependencies" s_are_dependencies ["value"] f32 _ := ⟨F32, F32.binds (ps := ["value"]) fun _ _ _ _ _ _ us hl => match us, hl with | [_], _ => rfl, PySem.W.mg_of X G a32⟩
  have F33 := fun_mk (st := s_is_entry) l33 c33 k33
  have D_is_entry : TopD K mg "is_entry" s_is_entry ["value"] f33 _ := ⟨F33, F33.binds (ps := ["value"]) fun _ _ _ _ _ _ us hl => match us, hl with | [_], _ => rfl, PySem.W.mg_of X G a33⟩
  have F34 := fun_mk (st := s_is_manifest) l34 c34 k34
  have D_is_manifest : TopD K mg "is_manifest" s_is_manifest ["value"] f34 _ := ⟨F34, F34.binds (ps := ["value"]) fun _ _ _ _ _ _ us hl => match us, hl with | [_], _ => rfl, PySem.W.mg_of X G a34⟩
  have F35 := fun_mk (st := s_check_project) l35 c35 k35
  have D_check_project : TopD K mg "check_project" s_check_project ["value"] f35 _ := ⟨F35, F35.binds (ps := ["value"]) fun _ _ _ _ _ _ us hl => match us, hl with | [_], _ => rfl, PySem.W.mg_of X G a35⟩
  have F36 := fun_mk (st := s_check_lock) l36 c36 k36
  have D_check_lock : TopD K mg "check_lock" s_check_lock ["value"] f36 _ := ⟨F36, F36.binds (ps := ["value"]) fun _ _ _ _ _ _ us hl => match us, hl with | [_], _ => rfl, PySem.W.mg_of X G a36⟩
  have F37 := fun_mk (st := s_are_packages) l37 c37 k37
  have D_are_packages : TopD K mg "are_packages" s_are_packages ["value"] f37 _ := ⟨F37, F37.binds (ps := ["value"]) fun _ _ _ _ _ _ us hl => match us, hl with | [_], _ => rfl, PySem.W.mg_of X G a37⟩
  have F38 := fun_mk (st := s_check_packages) l38 c38 k38
  have D_check_packages : TopD K mg "check_packages" s_check_packages ["value"] f38 _ := ⟨F38, F38.binds (ps := ["value"]) fun _ _ _ _ _ _ us hl => match us, hl with | [_], _ => rfl, PySem.W.mg_of X G a38⟩
  have F39 := fun_mk (st := s_law_kind) l39 c39 k39
  have D_law_kind : TopD K mg "_law_kind" s_law_kind ["_law_call", "_law_value"] f39 _ := ⟨F39, F39.binds (ps := ["_law_call", "_law_value"]) fun _ _ _ _ _ _ us hl => match us, hl with | [_, _], _ => rfl, PySem.W.mg_of X G a39⟩
  have F40 := fun_mk (st := s_law) l40 c40 k40
  have D_law : TopD K mg "law" s_law ["_law_script"] fa _ := ⟨F40, F40.binds (ps := ["_law_script"]) fun _ _ _ _ _ _ us hl => match us, hl with | [_], _ => rfl, PySem.W.mg_of X G a40⟩
  refine ⟨PySem.W.fnOf "law" "law" (defArgs s_law) (defBody s_law) (defScope s_law) .none kV40 dc40 pm40 an40 cd40 ct40, fun s v => .of_eq rfl, fun base _ _ => ?_⟩
  have G_number_of := ok_number_of (P := l.prog) (w := w) (base := base) D_number_of T 
  have G_next_major := ok_next_major (P := l.prog) (w := w) (base := base) D_next_major T 
  have G_is_name := ok_is_name (P := l.prog) (w := w) (base := base) D_is_name T 
  have G_are_different := ok_are_different (P := l.prog) (w := w) (base := base) D_are_different T 
  have G_find_package := ok_find_package (P := l.prog) (w := w) (base := base) D_find_package T 
  have G_law_cell := ok_law_cell (P := l.prog) (w := w) (base := base) D_law_cell T 
  have G_law_draws := ok_law_draws (P := l.prog) (w := w) (base := base) D_law_draws T 
  have G_law_next := ok_law_next (P := l.prog) (w := w) (base := base) D_law_next T 
  have G_law_is_integer := ok_law_is_integer (P := l.prog) (w := w) (base := base) D_law_is_integer T 
  have G_law_numbers := ok_law_numbers (P := l.prog) (w := w) (base := base) D_law_numbers T 
  have G_law_find := ok_law_find (P := l.prog) (w := w) (base := base) D_law_find T 
  have G_version_numbers := ok_version_numbers (P := l.prog) (w := w) (base := base) D_version_numbers T D_number_of G_number_of
  have G_law_stream := ok_law_stream (P := l.prog) (w := w) (base := base) D_law_stream T D_law_draws G_law_draws D_law_cell G_law_cell
  have G_law_same := ok_law_same (P := l.prog) (w := w) (base := base) D_law_same T D_law_is_integer G_law_is_integer 8
  have G_law_version := ok_law_version (P := l.prog) (w := w) (base := base) D_law_version T D_law_next G_law_next
  have G_law_fits_one := ok_law_fits_one (P := l.prog) (w := w) (base := base) D_law_fits_one T D_law_numbers G_law_numbers
  have G_span_between := ok_span_between (P := l.prog) (w := w) (base := base) D_span_between T D_version_numbers G_version_numbers
  have G_is_version := ok_is_version (P := l.prog) (w := w) (base := base) D_is_version T D_version_numbers G_version_numbers
  have G_law_alternative := ok_law_alternative (P := l.prog) (w := w) (base := base) D_law_alternative T D_law_next G_law_next D_law_version G_law_version
  have G_law_fits := ok_law_fits (P := l.prog) (w := w) (base := base) D_law_fits T D_law_fits_one G_law_fits_one D_law_numbers G_law_numbers
  have G_span_of := ok_span_of (P := l.prog) (w := w) (base := base) D_span_of T D_span_between G_span_between D_version_numbers G_version_numbers D_next_major G_next_major
  have G_law_range := ok_law_range (P := l.prog) (w := w) (base := base) D_law_range T D_law_next G_law_next D_law_alternative G_law_alternative
  have G_law_kept := ok_law_kept (P := l.prog) (w := w) (base := base) D_law_kept T D_law_fits G_law_fits D_law_find G_law_find
  have G_spans_of := ok_spans_of (P := l.prog) (w := w) (base := base) D_spans_of T D_span_of G_span_of
  have G_law_needs := ok_law_needs (P := l.prog) (w := w) (base := base) D_law_needs T D_law_next G_law_next D_law_range G_law_range
  have G_law_resolved := ok_law_resolved (P := l.prog) (w := w) (base := base) D_law_resolved T D_law_kept G_law_kept D_law_fits G_law_fits D_law_numbers G_law_numbers
  have G_is_range := ok_is_range (P := l.prog) (w := w) (base := base) D_is_range T D_spans_of G_spans_of
  have G_law_packages := ok_law_packages (P := l.prog) (w := w) (base := base) D_law_packages T D_law_next G_law_next D_law_version G_law_version D_law_needs G_law_needs
  have G_law_project := ok_law_project (P := l.prog) (w := w) (base := base) D_law_project T D_law_needs G_law_needs
  have G_law_resolve := ok_law_resolve (P := l.prog) (w := w) (base := base) D_law_resolve T D_law_resolved G_law_resolved D_law_find G_law_find
  have G_is_dependency := ok_is_dependency (P := l.prog) (w := w) (base := base) D_is_dependency T D_is_name G_is_name D_is_range G_is_range
  have G_law_some_lock := ok_law_some_lock (P := l.prog) (w := w) (base := base) D_law_some_lock T D_law_resolve G_law_resolve D_law_next G_law_next D_law_fits G_law_fits
  have G_are_dependencies := ok_are_dependencies (P := l.prog) (w := w) (base := base) D_are_dependencies T D_is_dependency G_is_dependency
  have G_is_entry := ok_is_entry (P := l.prog) (w := w) (base := base) D_is_entry T D_is_dependency G_is_dependency D_is_version G_is_version
  have G_is_manifest := ok_is_manifest (P := l.prog) (w := w) (base := base) D_is_manifest T D_is_name G_is_name D_is_version G_is_version D_are_dependencies G_are_dependencies D_are_different G_are_different
  have G_check_project := ok_check_project (P := l.prog) (w := w) (base := base) D_check_project T D_are_dependencies G_are_dependencies D_are_different G_are_different
  have G_check_lock := ok_check_lock (P := l.prog) (w := w) (base := base) D_check_lock T D_is_entry G_is_entry D_are_different G_are_different
  have G_are_packages := ok_are_packages (P := l.prog) (w := w) (base := base) D_are_packages T D_is_manifest G_is_manifest D_are_different G_are_different
  have G_check_packages := ok_check_packages (P := l.prog) (w := w) (base := base) D_check_packages T D_are_packages G_are_packages
  have G_law_kind := ok_law_kind (P := l.prog) (w := w) (base := base) D_law_kind T D_check_packages G_check_packages D_check_project G_check_project D_check_lock G_check_lock
  have G_law := ok_law (P := l.prog) (w := w) (base := base) D_law T D_law_stream G_law_stream D_law_packages G_law_packages D_law_project G_law_project D_law_some_lock G_law_some_lock D_law_kind G_law_kind D_law_same G_law_same D_find_package G_find_package D_law_next G_law_next
  exact G_law
end Q
namespace Q
open PySem PySem.Spec PyProof.Rows L2 U
theorem walk {l : PySem.W.OpenLaw} {q : Program} {loose : List Str} {XP : (Str → Option Value) → Heap → Prop} {YP : World → Heap → Prop} {d : DefRec} {K : Params → PySem.W.Frag} (hn : l.most = some 63) (hdf : d.params.defaults = [])
    (hY : ∀ (w : World) (h : Heap), YP w h → (K w.params).In h)
    (F : ∀ (w : World) (mg : Str → Option Value) (fa : Addr) (h : Heap), (K w.params).In h → h.Ns mainGlobals mg → mg d.name = some (.ref fa) →
      ∃ fd : FuncData, (∀ (s : Shared) (u : Value), BindsTo s fd ⟨[u], []⟩ [("_law_script", u)]) ∧ ∀ base : Heap, (K w.params).In base → base.Ns mainGlobals mg → FnOk l.prog w (K w.params) mg base (L2.CX l.prog w) 13 fa fd ["_law_script"] (spOf (K w.params) mg 1 run_law)) :
    PySem.W.WalkO q loose XP YP l.row.toRowW d [] (fun f vs => PySem.call f vs) :=
  law_walk hn hdf ⟨rfl, by decide, by decide⟩ hY F law_true
end Q
open PySem PySem.W PyProof.Rows
set_option maxHeartbeats 0 in
theorem PySem.Challenge.cw_peershelf_k03_packages_projects_locks_holds : PySem.Challenge.rw_peershelf_k03_packages_projects_locks.Holds := by
  w_on; o_law; k_head; (case hw => w_witness2)
  k_fill
  refine Q.walk (l := PySem.Challenge.rw_peershelf_k03_packages_projects_locks) rfl rfl (fun w h Y => PySem.W.kIn_of Y) ?F
  case F =>
    intro w mg fa h KX G hmg
    refine' Q.all_mk KX G hmg ?a0 ?l0 ?c0 ?k0 ?a1 ?l1 ?c1 ?k1 ?a2 ?l2 ?c2 ?k2 ?a3 ?l3 ?c3 ?k3 ?a4 ?l4 ?c4 ?k4 ?a5 ?l5 ?c5 ?k5 ?a6 ?l6 ?c6 ?k6 ?a7 ?l7 ?c7 ?k7 ?a8 ?l8 ?c8 ?k8 ?a9 ?l9 ?c9 ?k9 ?a10 ?l10 ?c10 ?k10 ?a11 ?l11 ?c11 ?k11 ?a12 ?l12 ?c12 ?k12 ?a13 ?l13 ?c13 ?k13 ?a14 ?l14 ?c14 ?k14 ?a15 ?l15 ?c15 ?k15 ?a16 ?l16 ?c16 ?k16 ?a17 ?l17 ?c17 ?k17 ?a18 ?l18 ?c18 ?k18 ?a19 ?l19 ?c19 ?k19 ?a20 ?l20 ?c20 ?k20 ?a21 ?l21 ?c21 ?k21 ?a22 ?l22 ?c22 ?k22 ?a23 ?l23 ?c23 ?k23 ?a24 ?l24 ?c24 ?k24 ?a25 ?l25 ?c25 ?k25 ?a26 ?l26 ?c26 ?k26 ?a27 ?l27 ?c27 ?k27 ?a28 ?l28 ?c28 ?k28 ?a29 ?l29 ?c29 ?k29 ?a30 ?l30 ?c30 ?k30 ?a31 ?l31 ?c31 ?k31 ?a32 ?l32 ?c32 ?k32 ?a33 ?l33 ?c33 ?k33 ?a34 ?l34 ?c34 ?k34 ?a35 ?l35 ?c35 ?k35 ?a36 ?l36 ?c36 ?k36 ?a37 ?l37 ?c37 ?k37 ?a38 ?l38 ?c38 ?k38 ?a39 ?l39 ?c39 ?k39 ?a40 ?l40 ?c40 ?k40 ?z_abs ?z_all ?z_bool ?z_int ?z_isinstance ?z_len ?z_list ?z_range ?z_sorted ?z_str ?z_tuple ?y_DIGITS ?y_LETTERS ?y_MOST_ALTERNATIVES ?y_MOST_DEPENDENCIES ?y_MOST_ENTRIES ?y_MOST_PACKAGES ?y_OTHERS ?xa_BadLock ?xb_BadLock ?xc_BadLock ?xd_BadLock ?xe_BadLock ?xa_BadPackages ?xb_BadPackages ?xc_BadPackages ?xd_BadPackages ?xe_BadPackages ?xa_BadProject ?xb_BadProject ?xc_BadProject ?xd_BadProject ?xe_BadProject ?q1_BadPackages ?q2_BadPackages ?q3_BadPackages ?q4_BadPackages ?q5_BadPackages ?q6_BadPackages ?q7_BadPackages ?q8_BadPackages ?q1_BadProject ?q2_BadProject ?q3_BadProject ?q4_BadProject ?q5_BadProject ?q6_BadProject ?q7_BadProject ?q8_BadProject ?q1_BadLock ?q2_BadLock ?q3_BadLock ?q4_BadLock ?q5_BadLock ?q6_BadLock ?q7_BadLock ?q8_BadLock ?xa_ShelfError ?q1_ShelfError ?q2_ShelfError ?q3_ShelfError ?q4_ShelfError ?q5_ShelfError ?q6_ShelfError ?q7_ShelfError ?q8_ShelfError ?u1 ?u2 ?s_BadPackages_BadPackages ?s_BadPackages_BadProject ?s_BadPackages_BadLock ?s_BadPackages_ShelfError ?s_BadProject_BadPackages ?s_BadProject_BadProject ?s_BadProject_BadLock ?s_BadProject_ShelfError ?s_BadLock_BadPackages ?s_BadLock_BadProject ?s_BadLock_BadLock ?s_BadLock_ShelfError
    (case a0 => k_is)
    (case l0 => k_is)
    (case c0 => k_is)
    (case k0 => k_is)
    (case a1 => k_is)
    (case l1 => k_is)
    (case c1 => k_is)
    (case k1 => k_is)
    (case a2 => k_is)
    (case l2 => k_is)
    (case c2 => k_is)
    (case k2 => k_is)
    (case a3 => k_is)
    (case l3 => k_is)
    (case c3 => k_is)
    (case k3 => k_is)
    (case a4 => k_is)
    (case l4 => k_is)
    (case c4 => k_is)
    (case k4 => k_is)
    (case a5 => k_is)
    (case l5 => k_is)
    (case c5 => k_is)
    (case k5 => k_is)
    (case a6 => k_is)
    (case l6 => k_is)
    (case c6 => k_is)
    (case k6 => k_is)
    (case a7 => k_is)
    (case l7 => k_is)
    (case c7 => k_is)
    (case k7 => k_is)
    (case a8 => k_is)
    (case l8 => k_is)
    (case c8 => k_is)
    (case k8 => k_is)
    (case a9 => k_is)
    (case l9 => k_is)
    (case c9 => k_is)
    (case k9 => k_is)
    (case a10 => k_is)
    (case l10 => k_is)
    (case c10 => k_is)
    (case k10 => k_is)
    (case a11 => k_is)
    (case l11 => k_is)
    (case c11 => k_is)
    (case k11 => k_is)
    (case a12 => k_is)
    (case l12 => k_is)
    (case c12 => k_is)
    (case k12 => k_is)
    (case a13 => k_is)
    (case l13 => k_is)
    (case c13 => k_is)
    (case k13 => k_is)
    (case a14 => k_is)
    (case l14 => k_is)
    (case c14 => k_is)
    (case k14 => k_is)
    (case a15 => k_is)
    (case l15 => k_is)
    (case c15 => k_is)
    (case k15 => k_is)
    (case a16 => k_is)
    (case l16 => k_is)
    (case c16 => k_is)
    (case k16 => k_is)
    (case a17 => k_is)
    (case l17 => k_is)
    (case c17 => k_is)
    (case k17 => k_is)
    (case a18 => k_is)
    (case l18 => k_is)
    (case c18 => k_is)
    (case k18 => k_is)
    (case a19 => k_is)
    (case l19 => k_is)
    (case c19 => k_is)
    (case k19 => k_is)
    (case a20 => k_is)
    (case l20 => k_is)
    (case c20 => k_is)
    (case k20 => k_is)
    (case a21 => k_is)
    (case l21 => k_is)
    (case c21 => k_is)
    (case k21 => k_is)
    (case a22 => k_is)
    (case l22 => k_is)
    (case c22 => k_is)
    (case k22 => k_is)
    (case a23 => k_is)
    (case l23 => k_is)
    (case c23 => k_is)
    (case k23 => k_is)
    (case a24 => k_is)
    (case l24 => k_is)
    (case c24 => k_is)
    (case k24 => k_is)
    (case a25 => k_is)
    (case l25 => k_is)
    (case c25 => k_is)
    (case k25 => k_is)
    (case a26 => k_is)
    (case l26 => k_is)
    (case c26 => k_is)
    (case k26 => k_is)
    (case a27 => k_is)
    (case l27 => k_is)
    (case c27 => k_is)
    (case k27 => k_is)
    (case a28 => k_is)
    (case l28 => k_is)
    (case c28 => k_is)
    (case k28 => k_is)
    (case a29 => k_is)
    (case l29 => k_is)
    (case c29 => k_is)
    (case k29 => k_is)
    (case a30 => k_is)
    (case l30 => k_is)
    (case c30 => k_is)
    (case k30 => k_is)
    (case a31 => k_is)
    (case l31 => k_is)
    (case c31 => k_is)
    (case k31 => k_is)
    (case a32 => k_is)
    (case l32 => k_is)
    (case c32 => k_is)
    (case k32 => k_is)
    (case a33 => k_is)
    (case l33 => k_is)
    (case c33 => k_is)
    (case k33 => k_is)
    (case a34 => k_is)
    (case l34 => k_is)
    (case c34 => k_is)
    (case k34 => k_is)
    (case a35 => k_is)
    (case l35 => k_is)
    (case c35 => k_is)
    (case k35 => k_is)
    (case a36 => k_is)
    (case l36 => k_is)
    (case c36 => k_is)
    (case k36 => k_is)
    (case a37 => k_is)
    (case l37 => k_is)
    (case c37 => k_is)
    (case k37 => k_is)
    (case a38 => k_is)
    (case l38 => k_is)
    (case c38 => k_is)
    (case k38 => k_is)
    (case a39 => k_is)
    (case l39 => k_is)
    (case c39 => k_is)
    (case k39 => k_is)
    (case a40 => k_is)
    (case l40 => k_is)
    (case c40 => k_is)
    (case k40 => k_is)
    (case z_abs => k_is)
    (case z_all => k_is)
    (case z_bool => k_is)
    (case z_int => k_is)
    (case z_isinstance => k_is)
    (case z_len => k_is)
    (case z_list => k_is)
    (case z_range => k_is)
    (case z_sorted => k_is)
    (case z_str => k_is)
    (case z_tuple => k_is)
    (case y_DIGITS => k_is)
    (case y_LETTERS => k_is)
    (case y_MOST_ALTERNATIVES => k_is)
    (case y_MOST_DEPENDENCIES => k_is)
    (case y_MOST_ENTRIES => k_is)
    (case y_MOST_PACKAGES => k_is)
    (case y_OTHERS => k_is)
    (case xa_BadLock => k_is)
    (case xb_BadLock => k_exc)
    (case xc_BadLock => k_is)
    (case xd_BadLock => k_is)
    (case xe_BadLock => k_is)
    (case xa_BadPackages => k_is)
    (case xb_BadPackages => k_exc)
    (case xc_BadPackages => k_is)
    (case xd_BadPackages => k_is)
    (case xe_BadPackages => k_is)
    (case xa_BadProject => k_is)
    (case xb_BadProject => k_exc)
    (case xc_BadProject => k_is)
    (case xd_BadProject => k_is)
    (case xe_BadProject => k_is)
    (case q1_BadPackages => k_is)
    (case q2_BadPackages => k_is)
    (case q3_BadPackages => k_is)
    (case q4_BadPackages => k_is)
    (case q5_BadPackages => k_is)
    (case q6_BadPackages => k_is)
    (case q7_BadPackages => k_is)
    (case q8_BadPackages => k_is)
    (case q1_BadProject => k_is)
    (case q2_BadProject => k_is)
    (case q3_BadProject => k_is)
    (case q4_BadProject => k_is)
    (case q5_BadProject => k_is)
    (case q6_BadProject => k_is)
    (case q7_BadProject => k_is)
    (case q8_BadProject => k_is)
    (case q1_BadLock => k_is)
    (case q2_BadLock => k_is)
    (case q3_BadLock => k_is)
    (case q4_BadLock => k_is)
    (case q5_BadLock => k_is)
    (case q6_BadLock => k_is)
    (case q7_BadLock => k_is)
    (case q8_BadLock => k_is)
    (case xa_ShelfError => k_is)
    (case q1_ShelfError => k_is)
    (case q2_ShelfError => k_is)
    (case q3_ShelfError => k_is)
    (case q4_ShelfError => k_is)
    (case q5_ShelfError => k_is)
    (case q6_ShelfError => k_is)
    (case q7_ShelfError => k_is)
    (case q8_ShelfError => k_is)
    (case u1 => k_is)
    (case u2 => k_is)
    (case s_BadPackages_BadPackages => k_is)
    (case s_BadPackages_BadProject => k_is)
    (case s_BadPackages_BadLock => k_is)
    (case s_BadPackages_ShelfError => k_is)
    (case s_BadProject_BadPackages => k_is)
    (case s_BadProject_BadProject => k_is)
    (case s_BadProject_BadLock => k_is)
    (case s_BadProject_ShelfError => k_is)
    (case s_BadLock_BadPackages => k_is)
    (case s_BadLock_BadProject => k_is)
    (case s_BadLock_BadLock => k_is)
    (case s_BadLock_ShelfError => k_is)
