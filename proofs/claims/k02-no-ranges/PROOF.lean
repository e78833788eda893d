import PyProof.Rows.All
import Wide.All
import OpenK.AllK
import Wide.FinOn
import HandS.ForMost
import HandS.ForExc
import HandS.TupAny
import HandS.TupLe
import HandS.Deep
import HandS.CallSlots
import HandS.IsInst
import HandS.ExcIs
import HandS.TryMany
import HandS.StrMore
import HandS.SortKw
import HandS.Codes
import KE.DataEq
import KE.DataCmp
import KE.SortData
import KE.SortKeyHeap
import PySem.Challenge.RW_peershelf_k02_no_ranges
set_option Elab.async false
set_option linter.all false
set_option maxRecDepth 100000
set_option maxHeartbeats 4000000
/-! U1: data over the hand layer: frozen lists, what a value stands for, the logical heap, judgements. -/
namespace U
open PySem PySem.Spec PyProof.Rows L2

abbrev D := PyData

/-- a list that no code changes any more -/
def FzL (H : Hp) (a : Addr) (xs : List V) : Prop := ∃ o, H a = some (.frz o (.lst xs))
theorem FzL.sq {K : PySem.W.Frag} {H : Hp} {a : Addr} {xs : List V} (h : FzL H a xs) : SqL K H a xs := by
  obtain ⟨o, h⟩ := h
  exact .inl (.inr ⟨o, h⟩)
/-- the script's list: it may be one of the module's -/
def FzK (K : PySem.W.Frag) (H : Hp) (a : Addr) (xs : List V) : Prop :=
  FzL H a xs ∨ ∃ (o : Obj) (its : Array Value) (n : Nat), K.lookup a = some o ∧ o.cls = .type "list" ∧ o.dict = none ∧ o.data = .seq its n ∧ its.size ≤ sizeLine ∧ Vals xs its.toList
theorem FzK.sq {K : PySem.W.Frag} {H : Hp} {a : Addr} {xs : List V} (h : FzK K H a xs) : SqL K H a xs := by
  rcases h with h | h
  · exact h.sq
  · exact .inr h

mutual
inductive Rp (K : PySem.W.Frag) (H : Hp) : V → D → Prop
  | non : Rp K H .non .none
  | bl (b : Bool) : Rp K H (.bl b) (.bool b)
  | int (i : Int) : Rp K H (.int i) (.int i)
  | str (x : Str) : Rp K H (.str x) (.str x)
  | lst {a : Addr} {xs : List V} {ds : List D} : FzL H a xs → RpAll K H xs ds → Rp K H (.ref a) (.list ds)
  | tup {a : Addr} {xs : List V} {ds : List D} : SqT K H a xs → RpAll K H xs ds → Rp K H (.ref a) (.tuple ds)
inductive RpAll (K : PySem.W.Frag) (H : Hp) : List V → List D → Prop
  | nil : RpAll K H [] []
  | cons {v : V} {vs : List V} {d : D} {ds : List D} : Rp K H v d → RpAll K H vs ds → RpAll K H (v :: vs) (d :: ds)
end

/-- what never changes stays -/
structure Mono (H H' : Hp) : Prop where
  tup : ∀ b xs, H b = some (.tup xs) → H' b = some (.tup xs)
  frz : ∀ b o u, H b = some (.frz o u) → H' b = some (.frz o u)
theorem Mono.refl (H : Hp) : Mono H H := ⟨fun _ _ h => h, fun _ _ _ h => h⟩
theorem Mono.trans {H H1 H2 : Hp} (a : Mono H H1) (b : Mono H1 H2) : Mono H H2 := ⟨fun c xs h => b.tup c xs (a.tup c xs h), fun c o u h => b.frz c o u (a.frz c o u h)⟩
theorem Mono.fzl {H H' : Hp} {a : Addr} {xs : List V} (m : Mono H H') (h : FzL H a xs) : FzL H' a xs := let ⟨o, h⟩ := h; ⟨o, m.frz _ _ _ h⟩
theorem Mono.fzk {K : PySem.W.Frag} {H H' : Hp} {a : Addr} {xs : List V} (m : Mono H H') (h : FzK K H a xs) : FzK K H' a xs := by
  rcases h with h | h
  · exact .inl (m.fzl h)
  · exact .inr h
theorem Mono.sqt {K : PySem.W.Frag} {H H' : Hp} {a : Addr} {xs : List V} (m : Mono H H') (h : SqT K H a xs) : SqT K H' a xs := by
  rcases h with (h | ⟨o, h⟩) | h
  · exact .inl (.inl (m.tup _ _ h))
  · exact .inl (.inr ⟨o, m.frz _ _ _ h⟩)
  · exact .inr h

mutual
theorem Rp.mono {K : PySem.W.Frag} {H H' : Hp} (m : Mono H H') : ∀ {v : V} {d : D}, Rp K H v d → Rp K H' v d
  | _, _, .non => .non
  | _, _, .bl b => .bl b
  | _, _, .int i => .int i
  | _, _, .str x => .str x
  | _, _, .lst h hs => .lst (m.fzl h) (RpAll.mono m hs)
  | _, _, .tup h hs => .tup (m.sqt h) (RpAll.mono m hs)
theorem RpAll.mono {K : PySem.W.Frag} {H H' : Hp} (m : Mono H H') : ∀ {vs : List V} {ds : List D}, RpAll K H vs ds → RpAll K H' vs ds
  | _, _, .nil => .nil
  | _, _, .cons h t => .cons (Rp.mono m h) (RpAll.mono m t)
end
mutual
theorem Rp.dp {K : PySem.W.Frag} {H : Hp} : ∀ {v : V} {d : D}, Rp K H v d → Dp K H v d
  | _, _, .non => .non
  | _, _, .bl b => .bl b
  | _, _, .int i => .int i
  | _, _, .str x => .str x
  | _, _, .lst h hs => .lst h.sq (RpAll.dp hs)
  | _, _, .tup h hs => .tup h (RpAll.dp hs)
theorem RpAll.dp {K : PySem.W.Frag} {H : Hp} : ∀ {vs : List V} {ds : List D}, RpAll K H vs ds → DpAll K H vs ds
  | _, _, .nil => .nil
  | _, _, .cons h t => .cons (Rp.dp h) (RpAll.dp t)
end
section
variable {K : PySem.W.Frag} {H : Hp}
theorem RpAll.length : ∀ {vs : List V} {ds : List D}, RpAll K H vs ds → vs.length = ds.length
  | _, _, .nil => rfl
  | _, _, .cons _ t => congrArg (· + 1) (RpAll.length t)
theorem RpAll.append : ∀ {vs ws : List V} {ds es : List D}, RpAll K H vs ds → RpAll K H ws es → RpAll K H (vs ++ ws) (ds ++ es)
  | _, _, _, _, .nil, h => h
  | _, _, _, _, .cons h t, q => .cons h (RpAll.append t q)
theorem RpAll.get : ∀ {vs : List V} {ds : List D} {i : Nat} {d : D}, RpAll K H vs ds → ds[i]? = some d → ∃ v, vs[i]? = some v ∧ Rp K H v d
  | _, _, i, _, .nil, e => by simp at e
  | _, _, 0, _, .cons h _, e => by simp at e; subst e; exact ⟨_, rfl, h⟩
  | _, _, i + 1, d, .cons _ t, e => by
    obtain ⟨v, h1, h2⟩ := RpAll.get (i := i) (d := d) t (by simpa using e)
    exact ⟨v, by simpa using h1, h2⟩
theorem RpAll.getV : ∀ {vs : List V} {ds : List D} {i : Nat} {v : V}, RpAll K H vs ds → vs[i]? = some v → ∃ d, ds[i]? = some d ∧ Rp K H v d
  | _, _, i, _, .nil, e => by simp at e
  | _, _, 0, _, .cons h _, e => by simp at e; subst e; exact ⟨_, rfl, h⟩
  | _, _, i + 1, d, .cons _ t, e => by
    obtain ⟨v, h1, h2⟩ := RpAll.getV (i := i) (v := d) t (by simpa using e)
    exact ⟨v, by simpa using h1, h2⟩
theorem RpAll.take : ∀ {vs : List V} {ds : List D} (n : Nat), RpAll K H vs ds → RpAll K H (vs.take n) (ds.take n)
  | _, _, 0, _ => .nil
  | _, _, _ + 1, .nil => .nil
  | _, _, n + 1, .cons h t => .cons h (RpAll.take n t)
theorem RpAll.drop : ∀ {vs : List V} {ds : List D} (n : Nat), RpAll K H vs ds → RpAll K H (vs.drop n) (ds.drop n)
  | _, _, 0, r => r
  | _, _, _ + 1, .nil => .nil
  | _, _, n + 1, .cons _ t => RpAll.drop n t
theorem RpAll.set {v : V} {d : D} (r : Rp K H v d) : ∀ {vs : List V} {ds : List D} (i : Nat), RpAll K H vs ds → RpAll K H (vs.set i v) (ds.set i d)
  | _, _, _, .nil => .nil
  | _, _, 0, .cons _ t => .cons r t
  | _, _, i + 1, .cons q t => .cons q (RpAll.set r i t)
theorem RpAll.erase : ∀ {vs : List V} {ds : List D} (i : Nat), RpAll K H vs ds → RpAll K H (vs.eraseIdx i) (ds.eraseIdx i)
  | _, _, _, .nil => .nil
  | _, _, 0, .cons _ t => t
  | _, _, i + 1, .cons q t => .cons q (RpAll.erase i t)
theorem RpAll.dropLast : ∀ {vs : List V} {ds : List D}, RpAll K H vs ds → RpAll K H vs.dropLast ds.dropLast
  | _, _, .nil => .nil
  | _, _, .cons _ .nil => .nil
  | _, _, .cons h (.cons h2 t) => .cons h (RpAll.dropLast (.cons h2 t))
theorem RpAll.rev {vs : List V} {ds : List D} (r : RpAll K H vs ds) : RpAll K H vs.reverse ds.reverse := by
  induction r using RpAll.rec (motive_1 := fun _ _ _ => True) with
  | nil => exact .nil
  | cons h t ih1 ih => rw [List.reverse_cons, List.reverse_cons]; exact ih.append (.cons h .nil)
  | _ => trivial
theorem RpAll.rep {vs : List V} {ds : List D} (r : RpAll K H vs ds) : ∀ n, RpAll K H (List.replicate n vs).flatten (List.replicate n ds).flatten
  | 0 => .nil
  | n + 1 => by rw [List.replicate_succ, List.replicate_succ, List.flatten_cons, List.flatten_cons]; exact r.append (RpAll.rep r n)
theorem RpAll.ints : ∀ ns : List Int, RpAll K H (ns.map V.int) (ns.map PyData.int)
  | [] => .nil
  | n :: r => .cons (.int n) (RpAll.ints r)
theorem RpAll.strs : ∀ ns : List Str, RpAll K H (ns.map V.str) (ns.map PyData.str)
  | [] => .nil
  | n :: r => .cons (.str n) (RpAll.strs r)
theorem RpAll.bls_inv : ∀ {bs : List Bool} {vs : List V}, RpAll K H vs (bs.map PyData.bool) → vs = bs.map V.bl
  | [], _, h => by cases h; rfl
  | b :: r, _, h => by
    cases h with
    | cons h t => cases h; rw [RpAll.bls_inv t]; rfl
theorem RpAll.ints_inv : ∀ {ns : List Int} {vs : List V}, RpAll K H vs (ns.map PyData.int) → vs = ns.map V.int
  | [], _, h => by cases h; rfl
  | b :: r, _, h => by
    cases h with
    | cons h t => cases h; rw [RpAll.ints_inv t]; rfl
theorem RpAll.strs_inv : ∀ {ns : List Str} {vs : List V}, RpAll K H vs (ns.map PyData.str) → vs = ns.map V.str
  | [], _, h => by cases h; rfl
  | b :: r, _, h => by
    cases h with
    | cons h t => cases h; rw [RpAll.strs_inv t]; rfl
end

/-! ### slots, the logical heap -/
/-- an exception: its class's name in the module, its fields -/
structure XV where
  cls : Str
  fs : List (Str × D)
/-- what a slot or an expression holds: data, a logical object, a list of one's own (read or changed at its slot alone), a caught exception, the script -/
inductive SV where
  | val (d : D) | ref (n : Nat) | own (ds : List D) | exc (x : XV) | scr (ns : List Int)
inductive GO where
  | lst (xs : List SV)
  | ins (C : Addr) (fs : List (Str × SV))
abbrev LH := List GO
abbrev DS := List (Option SV)

def RpF (K : PySem.W.Frag) (H : Hp) : List (Str × V) → List (Str × D) → Prop := Paired fun p q => p.1 = q.1 ∧ Rp K H p.2 q.2
/-- an exception's class and own dict -/
def RelX (K : PySem.W.Frag) (mg : Str → Option Value) (H : Hp) (c : Value) (dd : Option Addr) (x : XV) : Prop :=
  mg x.cls = some c ∧ ((dd = none ∧ x.fs = []) ∨ ∃ d fs, (dd = some d ∧ x.fs ≠ []) ∧ H d = some (.xd fs) ∧ RpF K H fs x.fs)
/-- a value stands for sv -/
def RelSV (K : PySem.W.Frag) (H : Hp) (mu : List Addr) (v : V) : SV → Prop
  | .val d => Rp K H v d
  | .ref n => ∃ a, mu[n]? = some a ∧ v = .ref a
  | .own ds => ∃ a xs, v = .ref a ∧ H a = some (.lst xs) ∧ a ∉ mu ∧ RpAll K H xs ds
  | .exc _ => False
  | .scr ns => ∃ a, v = .ref a ∧ FzK K H a (ns.map V.int)
/-- what may lie within an object -/
def Plain : SV → Prop
  | .val _ => True
  | .ref _ => True
  | _ => False
inductive All2 {α β : Type} (R : α → β → Prop) : List α → List β → Prop
  | nil : All2 R [] []
  | cons {a b as bs} : R a b → All2 R as bs → All2 R (a :: as) (b :: bs)
def RelPV (K : PySem.W.Frag) (H : Hp) (mu : List Addr) (v : V) (s : SV) : Prop := Plain s ∧ RelSV K H mu v s
def RelGO (K : PySem.W.Frag) (H : Hp) (mu : List Addr) (a : Addr) : GO → Prop
  | .lst xs => ∃ vs, H a = some (.lst vs) ∧ All2 (RelPV K H mu) vs xs
  | .ins C fs => ∃ dx vs, H a = some (.ins C dx vs) ∧ All2 (fun (p : Str × V) (q : Str × SV) => p.1 = q.1 ∧ RelPV K H mu p.2 q.2) vs fs
structure RelH (K : PySem.W.Frag) (H : Hp) (mu : List Addr) (h : LH) : Prop where
  len : mu.length = h.length
  nd : mu.Nodup
  at_ : ∀ (n : Nat) (a : Addr) (o : GO), mu[n]? = some a → h[n]? = some o → RelGO K H mu a o
structure Ext (mu : List Addr) (H : Hp) (mu' : List Addr) (H' : Hp) : Prop where
  mono : Mono H H'
  keep : ∀ b u, H b = some u → b ∉ mu → H' b = some u
  more : ∃ nu, mu' = mu ++ nu ∧ ∀ a ∈ nu, H a = none
  live : ∀ b, H b ≠ none → H' b ≠ none
theorem Ext.refl (mu : List Addr) (H : Hp) : Ext mu H mu H := ⟨.refl H, fun _ _ h _ => h, ⟨[], by simp, by simp⟩, fun _ h => h⟩
theorem Ext.trans {mu mu1 mu2 : List Addr} {H H1 H2 : Hp} (a : Ext mu H mu1 H1) (b : Ext mu1 H1 mu2 H2) : Ext mu H mu2 H2 where
  mono := a.mono.trans b.mono
  keep := fun c u h hc => b.keep c u (a.keep c u h hc) fun hm => by
    obtain ⟨nu, e, hn⟩ := a.more
    rw [e] at hm
    rcases List.mem_append.mp hm with q | q
    · exact hc q
    · rw [hn c q] at h; cases h
  more := by
    obtain ⟨nu, e, hn⟩ := a.more
    obtain ⟨nu2, e2, hn2⟩ := b.more
    refine ⟨nu ++ nu2, by rw [e2, e, List.append_assoc], fun c hc => ?_⟩
    rcases List.mem_append.mp hc with q | q
    · exact hn c q
    · cases h : H c with
      | none => rfl
      | some u => exact absurd (hn2 c q) (a.live c (by rw [h]; simp))
  live := fun c h => b.live c (a.live c h)
theorem Ext.mem {mu mu' : List Addr} {H H' : Hp} (e : Ext mu H mu' H') {a : Addr} (h : a ∈ mu) : a ∈ mu' := by
  obtain ⟨nu, q, _⟩ := e.more
  rw [q]; exact List.mem_append_left _ h
theorem Ext.get {mu mu' : List Addr} {H H' : Hp} (e : Ext mu H mu' H') {n : Nat} {a : Addr} (h : mu[n]? = some a) : mu'[n]? = some a := by
  obtain ⟨nu, q, _⟩ := e.more
  rw [q, List.getElem?_append_left (List.getElem?_eq_some_iff.mp h).1]; exact h
theorem Ext.notin {mu mu' : List Addr} {H H' : Hp} (e : Ext mu H mu' H') {a : Addr} {u : HO} (h : H a = some u) (n : a ∉ mu) : a ∉ mu' := by
  obtain ⟨nu, q, hn⟩ := e.more
  rw [q]
  intro hm
  rcases List.mem_append.mp hm with z | z
  · exact n z
  · rw [hn a z] at h; cases h
theorem RelSV.ext {K : PySem.W.Frag} {mu mu' : List Addr} {H H' : Hp} (e : Ext mu H mu' H') {v : V} : ∀ {s : SV}, RelSV K H mu v s → RelSV K H' mu' v s
  | .val _, h => h.mono e.mono
  | .ref _, ⟨a, h, q⟩ => ⟨a, e.get h, q⟩
  | .own _, ⟨a, xs, q, h, n, r⟩ => ⟨a, xs, q, e.keep a _ h n, e.notin h n, r.mono e.mono⟩
  | .exc _, h => h
  | .scr _, ⟨a, q, h⟩ => ⟨a, q, e.mono.fzk h⟩
theorem All2.imp {α β : Type} {R S : α → β → Prop} (f : ∀ a b, R a b → S a b) : ∀ {as : List α} {bs : List β}, All2 R as bs → All2 S as bs
  | _, _, .nil => .nil
  | _, _, .cons h t => .cons (f _ _ h) (All2.imp f t)
theorem All2.length {α β : Type} {R : α → β → Prop} : ∀ {as : List α} {bs : List β}, All2 R as bs → as.length = bs.length
  | _, _, .nil => rfl
  | _, _, .cons _ t => congrArg (· + 1) (All2.length t)
theorem All2.get {α β : Type} {R : α → β → Prop} : ∀ {as : List α} {bs : List β} {i : Nat} {b : β}, All2 R as bs → bs[i]? = some b → ∃ a, as[i]? = some a ∧ R a b
  | _, _, i, _, .nil, e => by simp at e
  | _, _, 0, _, .cons h _, e => by simp at e; subst e; exact ⟨_, rfl, h⟩
  | _, _, i + 1, d, .cons _ t, e => by
    obtain ⟨v, h1, h2⟩ := All2.get (i := i) (b := d) t (by simpa using e)
    exact ⟨v, by simpa using h1, h2⟩
theorem All2.set {α β : Type} {R : α → β → Prop} {a : α} {b : β} (r : R a b) : ∀ {as : List α} {bs : List β} (i : Nat), All2 R as bs → All2 R (as.set i a) (bs.set i b)
  | _, _, _, .nil => .nil
  | _, _, 0, .cons _ t => .cons r t
  | _, _, i + 1, .cons q t => .cons q (All2.set r i t)
theorem All2.append {α β : Type} {R : α → β → Prop} : ∀ {as as' : List α} {bs bs' : List β}, All2 R as bs → All2 R as' bs' → All2 R (as ++ as') (bs ++ bs')
  | _, _, _, _, .nil, h => h
  | _, _, _, _, .cons h t, q => .cons h (All2.append t q)

/-- the slots; pn: the pins of the context (a caught exception's object is among them) -/
structure RelS (K : PySem.W.Frag) (mg : Str → Option Value) (pn : List (Addr × Obj)) (H : Hp) (mu : List Addr) (st : L2.St) (ds : DS) : Prop where
  len : st.length = ds.length
  at_ : ∀ (i : Nat) (s : SV), ds[i]? = some (some s) → (∀ x, s ≠ SV.exc x) → ∃ v, st[i]? = some (some v) ∧ RelSV K H mu v s
  ex : ∀ (i : Nat) (x : XV), ds[i]? = some (some (SV.exc x)) → ∃ (e : Addr) (oe : Obj), st[i]? = some (some (V.ref e)) ∧ ((e, oe) ∈ pn ∧ ∃ us, oe.data = .fields us) ∧ mg x.cls = some oe.cls ∧
    ((oe.dict = none ∧ x.fs = []) ∨ ∃ d fs, (oe.dict = some d ∧ x.fs ≠ []) ∧ H d = some (.xd fs) ∧ d ∉ mu ∧ RpF K H fs x.fs)
theorem RpF.mono {K : PySem.W.Frag} {H H' : Hp} (m : Mono H H') {fs : List (Str × V)} {gs : List (Str × D)} (r : RpF K H fs gs) : RpF K H' fs gs := Paired.mapP r fun _ _ q => ⟨q.1, q.2.mono m⟩
theorem RelS.ext {K : PySem.W.Frag} {mg : Str → Option Value} {pn : List (Addr × Obj)} {mu mu' : List Addr} {H H' : Hp} {st : L2.St} {ds : DS} (r : RelS K mg pn H mu st ds) (e : Ext mu H mu' H') : RelS K mg pn H' mu' st ds where
  len := r.len
  at_ := fun i s h n => let ⟨v, h1, h2⟩ := r.at_ i s h n; ⟨v, h1, h2.ext e⟩
  ex := fun i x h => by
    obtain ⟨a, oe, h1, h2, h3, h4⟩ := r.ex i x h
    refine ⟨a, oe, h1, h2, h3, ?_⟩
    rcases h4 with h4 | ⟨d, fs, q1, q2, q3, q4⟩
    · exact .inl h4
    · exact .inr ⟨d, fs, q1, e.keep _ _ q2 q3, e.notin q2 q3, q4.mono e.mono⟩
theorem RelPV.ext {K : PySem.W.Frag} {mu mu' : List Addr} {H H' : Hp} (e : Ext mu H mu' H') {v : V} {s : SV} (h : RelPV K H mu v s) : RelPV K H' mu' v s := ⟨h.1, h.2.ext e⟩

/-! ### results -/
inductive Out (α : Type) where
  | ok (a : α) (h : LH)
  | exc (x : XV) (h : LH)
  | bad
def Out.bind {α β : Type} (o : Out α) (k : α → LH → Out β) : Out β := match o with
  | .ok a h => k a h
  | .exc x h => .exc x h
  | .bad => .bad
@[simp] theorem Out.bind_ok {α β : Type} (a : α) (h : LH) (k : α → LH → Out β) : (Out.ok a h).bind k = k a h := rfl
@[simp] theorem Out.bind_exc {α β : Type} (x : XV) (h : LH) (k : α → LH → Out β) : (Out.exc x h).bind k = .exc x h := rfl
@[simp] theorem Out.bind_bad {α β : Type} (k : α → LH → Out β) : (Out.bad).bind k = .bad := rfl
/-- o.bind that keeps the heap of the data -/
def Out.lift {α : Type} (o : Option α) (h : LH) : Out α := match o with
  | some a => .ok a h
  | none => .bad
@[simp] theorem Out.lift_some {α : Type} (a : α) (h : LH) : Out.lift (some a) h = .ok a h := rfl
@[simp] theorem Out.lift_none {α : Type} (h : LH) : Out.lift (none : Option α) h = .bad := rfl

/-- what follows from a result: R says how a value of type γ stands for the result (H: ahead, H' mu': behind) -/
def After {α γ : Type} (K : PySem.W.Frag) (mg : Str → Option Value) (W : Value → Option Addr → Hp → Prop) (R : Hp → List Addr → γ → α → Prop) (mu : List Addr) (H : Hp) (o : Out α) (Q : γ → Hp → Prop) : Prop := match o with
  | .ok a h' => ∀ v H' mu', Ext mu H mu' H' → RelH K H' mu' h' → R H' mu' v a → Q v H'
  | .exc x h' => ∀ c dd H' mu', Ext mu H mu' H' → RelH K H' mu' h' → RelX K mg H' c dd x → W c dd H'
  | .bad => False
theorem After.step {α β γ γ' : Type} {K : PySem.W.Frag} {mg : Str → Option Value} {W : Value → Option Addr → Hp → Prop} {R : Hp → List Addr → γ → α → Prop} {R' : Hp → List Addr → γ' → β → Prop} {mu : List Addr} {H : Hp} {o : Out α} {k : α → LH → Out β} {Q : γ' → Hp → Prop} {P : γ → Hp → Prop}
    (h : After K mg W R' mu H (o.bind k) Q)
    (f : ∀ a h1 v H1 mu1, o = .ok a h1 → Ext mu H mu1 H1 → RelH K H1 mu1 h1 → R H1 mu1 v a → After K mg W R' mu1 H1 (k a h1) Q → P v H1) : After K mg W R mu H o P := by
  cases o with
  | bad => exact h
  | exc x h' => exact h
  | ok a h1 =>
    intro v H1 mu1 e rh r
    refine f a h1 v H1 mu1 rfl e rh r ?_
    have h : After K mg W R' mu H (k a h1) Q := h
    cases q : k a h1 with
    | bad => rw [q] at h; exact h
    | exc x h2 =>
      rw [q] at h
      exact fun c dd H' mu' e2 rh2 rx => h c dd H' mu' (e.trans e2) rh2 rx
    | ok b h2 =>
      rw [q] at h
      exact fun v H' mu' e2 rh2 r2 => h v H' mu' (e.trans e2) rh2 r2
theorem After.imp {α γ : Type} {K : PySem.W.Frag} {mg : Str → Option Value} {W : Value → Option Addr → Hp → Prop} {R R' : Hp → List Addr → γ → α → Prop} {mu : List Addr} {H : Hp} {o : Out α} {Q Q' : γ → Hp → Prop} (h : After K mg W R mu H o Q)
    (f : ∀ v a H1 mu1 h1, o = .ok a h1 → Ext mu H mu1 H1 → RelH K H1 mu1 h1 → R' H1 mu1 v a → R H1 mu1 v a ∧ (Q v H1 → Q' v H1)) : After K mg W R' mu H o Q' := by
  cases o with
  | bad => exact h
  | exc x h' => exact h
  | ok a h1 =>
    intro v H1 mu1 e rh r
    obtain ⟨q1, q2⟩ := f v a H1 mu1 h1 rfl e rh r
    exact q2 (h v H1 mu1 e rh q1)
/-- an answer at once -/
theorem After.here {α γ : Type} {K : PySem.W.Frag} {mg : Str → Option Value} {W : Value → Option Addr → Hp → Prop} {R : Hp → List Addr → γ → α → Prop} {mu : List Addr} {H : Hp} {a : α} {h : LH} {Q : γ → Hp → Prop} (q : After K mg W R mu H (.ok a h) Q) (rh : RelH K H mu h) {v : γ} (r : R H mu v a) : Q v H :=
  q v H mu (.refl _ _) rh r
/-- at a new object -/
theorem After.new {α γ : Type} {K : PySem.W.Frag} {mg : Str → Option Value} {W : Value → Option Addr → Hp → Prop} {R : Hp → List Addr → γ → α → Prop} {mu : List Addr} {H H' : Hp} {a : α} {h : LH} {Q : γ → Hp → Prop} (q : After K mg W R mu H (.ok a h) Q) (e : Ext mu H mu H') (rh : RelH K H' mu h) {v : γ} (r : R H' mu v a) : Q v H' :=
  q v H' mu e rh r

section
variable {X : Cx}
/-- readings of expressions, tests, lists of arguments from functions over the slots and the logical heap -/
def rSV (K : PySem.W.Frag) : Hp → List Addr → V → SV → Prop := fun H mu v s => RelSV K H mu v s
def LE (X : Cx) (W : WX) (f : DS → LH → Out SV) : TE := fun st H Q => ∃ ds mu h, RelS X.K X.mg X.pn H mu st ds ∧ RelH X.K H mu h ∧ After X.K X.mg (fun c dd H' => W c dd st H') (rSV X.K) mu H (f ds h) Q
def LT (X : Cx) (W : WX) (f : DS → LH → Out Bool) : TT := fun st H Q => ∃ ds mu h, RelS X.K X.mg X.pn H mu st ds ∧ RelH X.K H mu h ∧ After X.K X.mg (fun c dd H' => W c dd st H') (fun _ _ (v : Bool) b => v = b) mu H (f ds h) Q
def LA (X : Cx) (W : WX) (f : DS → LH → Out (List SV)) : TA := fun st H Q => ∃ ds mu h, RelS X.K X.mg X.pn H mu st ds ∧ RelH X.K H mu h ∧ After X.K X.mg (fun c dd H' => W c dd st H') (fun H' mu' vs ss => All2 (RelSV X.K H' mu') vs ss) mu H (f ds h) Q
/-- a list that nothing else knows; dn: free ahead -/
def LF (X : Cx) (W : WX) (f : DS → LH → Out (List D)) : TE := fun st H Q => ∃ ds mu h, RelS X.K X.mg X.pn H mu st ds ∧ RelH X.K H mu h ∧
  After X.K X.mg (fun c dd H' => W c dd st H') (fun H' mu' v l => ∃ a xs, v = V.ref a ∧ H a = none ∧ a ∉ mu' ∧ H' a = some (.lst xs) ∧ RpAll X.K H' xs l) mu H (f ds h) Q
structure EM (X : Cx) (W : WX) (e : Expr) (f : DS → LH → Out SV) : Prop where
  pe : PE X e (LE X W f)
structure TM (X : Cx) (W : WX) (e : Expr) (f : DS → LH → Out Bool) : Prop where
  pt : PT X e (LT X W f)
structure AM (X : Cx) (W : WX) (es : List Expr) (f : DS → LH → Out (List SV)) : Prop where
  pa : PA X es (LA X W f)
structure FM (X : Cx) (W : WX) (e : Expr) (f : DS → LH → Out (List D)) : Prop where
  pe : PE X e (LF X W f)
theorem PE.imp {e : Expr} {t t' : TE} (h : PE X e t) (i : ∀ st H Q, t' st H Q → t st H Q) : PE X e t' := ⟨fun pins s st H Q I q => h.run pins s st H Q I (i _ _ _ q)⟩
theorem PT.imp {e : Expr} {t t' : TT} (h : PT X e t) (i : ∀ st H Q, t' st H Q → t st H Q) : PT X e t' := ⟨fun pins s st H Q I q => h.run pins s st H Q I (i _ _ _ q)⟩
theorem PA.imp {e : List Expr} {t t' : TA} (h : PA X e t) (i : ∀ st H Q, t' st H Q → t st H Q) : PA X e t' := ⟨fun p pins s st H Q I q => h.run p pins s st H Q I (i _ _ _ q)⟩
theorem PS.imp {e : Stmt} {t t' : TS} (h : PS X e t) (i : ∀ E st H, t' E st H → t E st H) : PS X e t' := ⟨fun pins s st H E I q => h.run pins s st H E I (i _ _ _ q)⟩
theorem PSs.imp {e : List Stmt} {t t' : TS} (h : PSs X e t) (i : ∀ E st H, t' E st H → t E st H) : PSs X e t' := ⟨fun pins s st H E I q => h.run pins s st H E I (i _ _ _ q)⟩
theorem PI.imp {tg e : Expr} {t t' : TI} (h : PI X tg e t) (i : ∀ st H R, t' st H R → t st H R) : PI X tg e t' := ⟨fun pins s st H R I q => h.run pins s st H R I (i _ _ _ q)⟩
end
end U
/-! U2: freezing; operators, comparisons, subscripts, slices over data. -/
namespace U
open PySem PySem.Spec PyProof.Rows L2

/-! ### freezing -/
section
variable {X : Cx} {pins : List (Addr × Obj)} {st : L2.St} {H : Hp} {s : Shared} {a : Addr} {u : HO} {o : Obj}
theorem inv_frz (I : Inv X pins st H s) (h : H a = some u) (e : s.heap.get? a = some o) (n1 : ∀ xs, u ≠ .tup xs) (n2 : ∀ o' u', u ≠ .frz o' u') (n3 : ∀ x, u ≠ .own x) (n4 : ∀ ps, u ≠ .tbl ps) : Inv X pins st (upd H a (.frz o u)) s := by
  have tupk : ∀ b xs, H b = some (.tup xs) → upd H a (.frz o u) b = some (.tup xs) := fun b xs q => by
    rw [upd_ne (fun z => by subst z; rw [h] at q; exact n1 xs (Option.some.inj q))]; exact q
  have frzk : ∀ b o' xs, H b = some (.frz o' xs) → upd H a (.frz o u) b = some (.frz o' xs) := fun b o' xs q => by
    rw [upd_ne (fun z => by subst z; rw [h] at q; exact n2 o' xs (Option.some.inj q))]; exact q
  have ownk : ∀ b x, H b = some (.own x) → upd H a (.frz o u) b = some (.own x) := fun b x q => by
    rw [upd_ne (fun z => by subst z; rw [h] at q; exact n3 x (Option.some.inj q))]; exact q
  have hk : HOk X.prog X.w (upd H a (.frz o u)) s.heap := fun b v q => by
    by_cases hb : b = a
    · subst hb
      rw [upd_same] at q
      cases q
      exact ⟨e, (I.hok b u h).stay (fun _ _ _ z => z) (fun c z => ownk c b z) tupk⟩
    · rw [upd_ne hb] at q
      exact (I.hok b v q).stay (fun _ _ _ z => z) (fun c z => ownk c b z) tupk
  have un : Un X.fs [] H (upd H a (.frz o u)) s.heap s.heap := by
    refine ⟨fun b ob q _ _ _ => q, fun b ob q _ _ _ => ⟨ob.slots, q⟩, fun b ob q n _ => ?_, fun b ob q _ => ⟨ob, q⟩, tupk, frzk, fun b ps q => ⟨#[], ?_⟩⟩
    · rw [upd_ne (fun z => by subst z; rw [h] at n; cases n)]; exact n
    · rw [upd_ne (fun z => by subst z; rw [h] at q; exact n4 ps (Option.some.inj q)), q]; simp
  exact I.un (h' := s.heap) (t' := s.toks) un hk
/-- Q at the frozen list -/
def Fz (Q : VK) : VK := fun z H1 => ∃ a xs, z = V.ref a ∧ H1 a = some (.lst xs) ∧ ∀ o, Q z (upd H1 a (.frz o (.lst xs)))
theorem inv_frzL {xs : List V} (I : Inv X pins st H s) (h : H a = some (.lst xs)) : ∃ o, Inv X pins st (upd H a (.frz o (.lst xs))) s := by
  obtain ⟨_, its, n, _, e⟩ := I.hok a _ h
  exact ⟨_, inv_frz I h e (fun _ z => by cases z) (fun _ _ z => by cases z) (fun _ z => by cases z) (fun _ z => by cases z)⟩
theorem ep_fz {Q : VK} {v : Value} (h : EP X pins st (Fz Q) v s) : EP X pins st Q v s := by
  obtain ⟨z, H1, I, r, a, xs, rfl, e, q⟩ := h
  obtain ⟨o, J⟩ := inv_frzL I e
  exact ⟨_, _, J, r, q o⟩
end
theorem pe_fz {X : Cx} {e : Expr} {t : TE} (h : PE X e t) : PE X e (fun st H Q => t st H (Fz Q)) := ⟨fun pins s st H Q I q => thn (h.run pins s st H _ I q) fun _ _ z => ep_fz z⟩
theorem op_fz {X : Cx} {f : Value → Value → Sem Value} {r : R2} (h : OpR X f r) : OpR X f (fun x y H Q => r x y H (Fz Q)) := fun pins s st H x y v u Q I r1 r2 q => thn (h pins s st H x y v u _ I r1 r2 q) fun _ _ z => ep_fz z
theorem upd_mono {H : Hp} {p : Addr} {o : HO} (n : H p = none) : Mono H (upd H p o) :=
  ⟨fun b xs h => by rw [upd_ne (ne_of_none h n)]; exact h, fun b o' u h => by rw [upd_ne (ne_of_none h n)]; exact h⟩
/-- a new address -/
theorem ext_new {mu : List Addr} {H : Hp} {p : Addr} {o : HO} (n : H p = none) : Ext mu H mu (upd H p o) :=
  ⟨upd_mono n, fun b u h _ => by rw [upd_ne (ne_of_none h n)]; exact h, ⟨[], by simp, by simp⟩, fun b h => by
    by_cases e : b = p
    · subst e; rw [upd_same]; simp
    · rw [upd_ne e]; exact h⟩
theorem ext_new2 {mu : List Addr} {H : Hp} {p : Addr} {o o' : HO} (n : H p = none) : Ext mu H mu (upd (upd H p o) p o') := by rw [upd_upd]; exact ext_new n
/-- the logical heap keeps while tracked things keep -/
theorem RelH.live {K : PySem.W.Frag} {H : Hp} {mu : List Addr} {h : LH} (r : RelH K H mu h) {a : Addr} (m : a ∈ mu) : ∃ u, H a = some u ∧ (∀ o v, u ≠ .frz o v) ∧ ∀ xs, u ≠ .tup xs := by
  obtain ⟨n, hn, e⟩ := List.mem_iff_getElem.mp m
  have hn' : n < h.length := by rw [← r.len]; exact hn
  have q := r.at_ n a h[n] (by rw [List.getElem?_eq_getElem hn, e]) (List.getElem?_eq_getElem hn')
  cases z : h[n] with
  | lst xs =>
    rw [z] at q
    obtain ⟨vs, q, _⟩ := q
    exact ⟨_, q, (fun _ _ x => by cases x), fun _ x => by cases x⟩
  | ins C fs =>
    rw [z] at q
    obtain ⟨dx, vs, q, _⟩ := q
    exact ⟨_, q, (fun _ _ x => by cases x), fun _ x => by cases x⟩
theorem RelH.notin {K : PySem.W.Frag} {H : Hp} {mu : List Addr} {h : LH} (r : RelH K H mu h) {a : Addr} (n : H a = none) : a ∉ mu := fun m => by
  obtain ⟨u, e, _⟩ := r.live m
  rw [n] at e; cases e
theorem All2.map2 {α β : Type} {R S : α → β → Prop} {as : List α} {bs : List β} (h : All2 R as bs) (f : ∀ a b, R a b → S a b) : All2 S as bs := h.imp f
theorem RelGO.keep {K : PySem.W.Frag} {H H' : Hp} {mu mu' : List Addr} {a : Addr} {o : GO} (h : RelGO K H mu a o) (k : ∀ u, H a = some u → H' a = some u) (f : ∀ v s, RelPV K H mu v s → RelPV K H' mu' v s) : RelGO K H' mu' a o := by
  cases o with
  | lst xs => obtain ⟨vs, e, q⟩ := h; exact ⟨vs, k _ e, q.imp f⟩
  | ins C fs => obtain ⟨dx, vs, e, q⟩ := h; exact ⟨dx, vs, k _ e, q.imp fun _ _ z => ⟨z.1, f _ _ z.2⟩⟩
/-- all that was tracked is as it was -/
theorem RelH.same {K : PySem.W.Frag} {H H' : Hp} {mu : List Addr} {h : LH} (r : RelH K H mu h) (e : Ext mu H mu H') (k : ∀ a ∈ mu, ∀ u, H a = some u → H' a = some u) : RelH K H' mu h :=
  ⟨r.len, r.nd, fun n a o h1 h2 => (r.at_ n a o h1 h2).keep (fun u q => k a (List.mem_of_getElem? h1) u q) fun _ _ q => q.ext e⟩
theorem RelH.new {K : PySem.W.Frag} {H : Hp} {mu : List Addr} {h : LH} (r : RelH K H mu h) {p : Addr} {o : HO} (n : H p = none) : RelH K (upd H p o) mu h :=
  r.same (ext_new n) fun a _ u q => by rw [upd_ne (ne_of_none q n)]; exact q
theorem RelH.new2 {K : PySem.W.Frag} {H : Hp} {mu : List Addr} {h : LH} (r : RelH K H mu h) {p : Addr} {o o' : HO} (n : H p = none) : RelH K (upd (upd H p o) p o') mu h := by rw [upd_upd]; exact r.new n

/-! ### what a value holds -/
@[simp] def asInt : SV → Option Int
  | .val (.int i) => some i
  | _ => none
@[simp] def asStr : SV → Option Str
  | .val (.str i) => some i
  | _ => none
@[simp] def asBool : SV → Option Bool
  | .val (.bool i) => some i
  | _ => none
@[simp] def asTup : SV → Option (List D)
  | .val (.tuple i) => some i
  | _ => none
/-- the items of a list, whoever knows it -/
@[simp] def asLst : SV → Option (List D)
  | .val (.list ds) => some ds
  | .own ds => some ds
  | _ => none
theorem asInt_of : ∀ {x : SV} {i : Int}, asInt x = some i → x = .val (.int i) := by
  intro x i h
  cases x with
  | val d => cases d <;> first | (cases h; rfl) | cases h
  | _ => cases h
theorem asStr_of : ∀ {x : SV} {i : Str}, asStr x = some i → x = .val (.str i) := by
  intro x i h
  cases x with
  | val d => cases d <;> first | (cases h; rfl) | cases h
  | _ => cases h
theorem asBool_of : ∀ {x : SV} {i : Bool}, asBool x = some i → x = .val (.bool i) := by
  intro x i h
  cases x with
  | val d => cases d <;> first | (cases h; rfl) | cases h
  | _ => cases h
theorem asTup_of : ∀ {x : SV} {i : List D}, asTup x = some i → x = .val (.tuple i) := by
  intro x i h
  cases x with
  | val d => cases d <;> first | (cases h; rfl) | cases h
  | _ => cases h
section
variable {K : PySem.W.Frag} {H : Hp} {mu : List Addr} {v : V} {x : SV}
theorem asInt_rel {i : Int} (h : asInt x = some i) (r : RelSV K H mu v x) : v = .int i := by
  have e := asInt_of h
  subst e
  cases r
  rfl
theorem asStr_rel {i : Str} (h : asStr x = some i) (r : RelSV K H mu v x) : v = .str i := by
  have e := asStr_of h
  subst e
  cases r
  rfl
theorem asBool_rel {i : Bool} (h : asBool x = some i) (r : RelSV K H mu v x) : v = .bl i := by
  have e := asBool_of h
  subst e
  cases r
  rfl
theorem asTup_rel {i : List D} (h : asTup x = some i) (r : RelSV K H mu v x) : ∃ a xs, v = .ref a ∧ SqT K H a xs ∧ RpAll K H xs i := by
  have e := asTup_of h
  subst e
  cases r with
  | tup h q => exact ⟨_, _, rfl, h, q⟩
theorem asLst_rel {i : List D} (h : asLst x = some i) (r : RelSV K H mu v x) : ∃ a xs, v = .ref a ∧ Rd H a (.lst xs) ∧ RpAll K H xs i := by
  cases x with
  | val d =>
    cases d with
    | list ds =>
      cases h
      cases r with
      | lst f q => exact ⟨_, _, rfl, .inr f, q⟩
    | _ => cases h
  | own ds =>
    cases h
    obtain ⟨a, xs, rfl, h1, _, h2⟩ := r
    exact ⟨a, xs, rfl, .inl h1, h2⟩
  | _ => cases h
end
theorem rd_sq {K : PySem.W.Frag} {H : Hp} {a : Addr} {xs : List V} (h : Rd H a (.lst xs)) : SqL K H a xs := .inl h
/-- two options -/
def both {α β : Type} : Option α → Option β → Option (α × β)
  | some a, some b => some (a, b)
  | _, _ => none
@[simp] theorem both_ss {α β : Type} (a : α) (b : β) : both (some a) (some b) = some (a, b) := rfl
@[simp] theorem both_n {α β : Type} (b : Option β) : both (none : Option α) b = none := by cases b <;> rfl
@[simp] theorem both_n2 {α β : Type} (b : Option β) : both b (none : Option α) = none := by cases b <;> rfl
theorem both_of {α β : Type} {a : Option α} {b : Option β} {p : α × β} (h : both a b = some p) : a = some p.1 ∧ b = some p.2 := by
  cases a <;> cases b <;> first | (cases h; exact ⟨rfl, rfl⟩) | cases h
/-- the first that is there; bad where none is -/
def orBad {α β : Type} (o : Option α) (k : α → Out β) : Out β := match o with
  | some a => k a
  | none => .bad
@[simp] theorem orBad_some {α β : Type} (a : α) (k : α → Out β) : orBad (some a) k = k a := rfl
@[simp] theorem orBad_none {α β : Type} (k : α → Out β) : orBad none k = .bad := rfl
def orNext {α β : Type} (o : Option α) (k : α → Out β) (n : Out β) : Out β := match o with
  | some a => k a
  | none => n
@[simp] theorem orNext_some {α β : Type} (a : α) (k : α → Out β) (n : Out β) : orNext (some a) k n = k a := rfl
@[simp] theorem orNext_none {α β : Type} (k : α → Out β) (n : Out β) : orNext none k n = n := rfl
/-- an answer under a condition -/
def iff {α : Type} (c : Prop) [Decidable c] (o : Out α) : Out α := if c then o else .bad
theorem iff_pos {α : Type} {c : Prop} [Decidable c] (h : c) (o : Out α) : iff c o = o := if_pos h
theorem After.iff {α γ : Type} {K : PySem.W.Frag} {mg : Str → Option Value} {W : Value → Option Addr → Hp → Prop} {R : Hp → List Addr → γ → α → Prop} {mu : List Addr} {H : Hp} {c : Prop} [Decidable c] {o : Out α} {Q : γ → Hp → Prop} (q : After K mg W R mu H (iff c o) Q) : c ∧ After K mg W R mu H o Q := by
  unfold U.iff at q
  by_cases h : c
  · rw [if_pos h] at q; exact ⟨h, q⟩
  · rw [if_neg h] at q; exact q.elim
theorem After.orBad {α β γ : Type} {K : PySem.W.Frag} {mg : Str → Option Value} {W : Value → Option Addr → Hp → Prop} {R : Hp → List Addr → γ → β → Prop} {mu : List Addr} {H : Hp} {o : Option α} {k : α → Out β} {Q : γ → Hp → Prop} (q : After K mg W R mu H (orBad o k) Q) : ∃ a, o = some a ∧ After K mg W R mu H (k a) Q := by
  cases o with
  | none => exact q.elim
  | some a => exact ⟨a, rfl, q⟩
theorem After.orNext {α β γ : Type} {K : PySem.W.Frag} {mg : Str → Option Value} {W : Value → Option Addr → Hp → Prop} {R : Hp → List Addr → γ → β → Prop} {mu : List Addr} {H : Hp} {o : Option α} {k : α → Out β} {n : Out β} {Q : γ → Hp → Prop} (q : After K mg W R mu H (orNext o k n) Q) : (∃ a, o = some a ∧ After K mg W R mu H (k a) Q) ∨ After K mg W R mu H n Q := by
  cases o with
  | none => exact .inr q
  | some a => exact .inl ⟨a, rfl, q⟩

/-! ### an operation over data and its reading -/
section
variable {X : Cx} {W : WX} {a b c : Expr} {fa fb fc : DS → LH → Out SV} {pos : Pos}
abbrev WH := Value → Option Addr → Hp → Prop
/-- g is what the reading r asks -/
def OpG (X : Cx) (r : R2) (g : SV → SV → LH → Out SV) : Prop := ∀ (W : WH) (mu : List Addr) (h : LH) (H : Hp) (v u : V) (x y : SV) (Q : VK), RelH X.K H mu h → RelSV X.K H mu v x → RelSV X.K H mu u y →
  After X.K X.mg W (rSV X.K) mu H (g x y h) Q → r v u H Q
def OpD (X : Cx) (f : Value → Value → Sem Value) (g : SV → SV → LH → Out SV) : Prop := ∃ r, OpR X f r ∧ OpG X r g
theorem OpD.orElse {f : Value → Value → Sem Value} {g g' gg : SV → SV → LH → Out SV} (h : OpD X f g) (h' : OpD X f g') (e : ∀ x y l, gg x y l = g x y l ∨ gg x y l = g' x y l) : OpD X f gg := by
  obtain ⟨r, hr, hg⟩ := h
  obtain ⟨r', hr', hg'⟩ := h'
  refine ⟨_, OpR.or hr hr', fun W mu h H v u x y Q rh r1 r2 q => ?_⟩
  rcases e x y h with z | z
  · rw [z] at q; exact .inl (hg W mu h H v u x y Q rh r1 r2 q)
  · rw [z] at q; exact .inr (hg' W mu h H v u x y Q rh r1 r2 q)
/-- two operands, then g -/
def eBin (g : SV → SV → LH → Out SV) (fa fb : DS → LH → Out SV) : DS → LH → Out SV := fun ds h => (fa ds h).bind fun x h1 => (fb ds h1).bind fun y h2 => g x y h2
theorem LE.bin {r : R2} {g : SV → SV → LH → Out SV} (hg : OpG X r g) : ∀ st H Q, LE X W (eBin g fa fb) st H Q → tOp r (LE X W fa) (LE X W fb) st H Q := by
  rintro st H Q ⟨ds, mu, h, rs, rh, q⟩
  exact ⟨ds, mu, h, rs, rh, After.step q fun x h1 v H1 mu1 _ e1 rh1 r1 q1 => ⟨ds, mu1, h1, rs.ext e1, rh1, After.step q1 fun y h2 u H2 mu2 _ e2 rh2 r2 q2 => hg _ mu2 h2 H2 v u x y Q rh2 (r1.ext e2) r2 q2⟩⟩
theorem em_op {op : Operator} {g : SV → SV → LH → Out SV} (ho : OpD X (binaryOp op) g) (ha : EM X W a fa) (hb : EM X W b fb) : EM X W (.BinOp a op b pos) (eBin g fa fb) := by
  obtain ⟨r, hr, hg⟩ := ho
  exact ⟨PE.imp (pe_op hr ha.pe hb.pe) (LE.bin hg)⟩
theorem em_cmp {op : CmpOp} {g : SV → SV → LH → Out SV} (ho : OpD X (compareOp op) g) (ha : EM X W a fa) (hb : EM X W b fb) (hm : behindInMarks op b = false) : EM X W (.Compare a [op] [b] pos) (eBin g fa fb) := by
  obtain ⟨r, hr, hg⟩ := ho
  exact ⟨PE.imp (pe_cmpR hr ha.pe hb.pe hm) (LE.bin hg)⟩
/-- a value that is a bool, as a test -/
def tOf (f : DS → LH → Out SV) : DS → LH → Out Bool := fun ds h => (f ds h).bind fun x h1 => orBad (asBool x) fun b => .ok b h1
theorem LE.test : ∀ st H (Q : Bool → Hp → Prop), LT X W (tOf fa) st H Q → tTest (LE X W fa) st H Q := by
  rintro st H Q ⟨ds, mu, h, rs, rh, q⟩
  refine ⟨ds, mu, h, rs, rh, After.step q fun x h1 v H1 mu1 _ e1 rh1 r1 q1 => ?_⟩
  obtain ⟨b, e, q2⟩ := q1.orBad
  exact ⟨b, asBool_rel e r1, q2.here rh1 rfl⟩
theorem tm_cmp {op : CmpOp} {g : SV → SV → LH → Out SV} (ho : OpD X (compareOp op) g) (ha : EM X W a fa) (hb : EM X W b fb) (hm : behindInMarks op b = false) : TM X W (.Compare a [op] [b] pos) (tOf (eBin g fa fb)) := by
  obtain ⟨r, hr, hg⟩ := ho
  exact ⟨PT.imp (pt_cmpR hr ha.pe hb.pe hm) fun st H Q q => by
    obtain ⟨ds, mu, h, rs, rh, q⟩ := LE.test st H Q q
    exact LE.bin hg st H _ ⟨ds, mu, h, rs, rh, q⟩⟩

/-! ### arithmetic, concatenation -/
def gAdd (x y : SV) (h : LH) : Out SV :=
  orNext (both (asInt x) (asInt y)) (fun p => .ok (.val (.int (p.1 + p.2))) h) <|
  orNext (both (asStr x) (asStr y)) (fun p => iff (p.1.length + p.2.length ≤ sizeLine) (.ok (.val (.str (p.1 ++ p.2))) h)) <|
  orNext (both (asTup x) (asTup y)) (fun p => iff (p.1.length + p.2.length ≤ sizeLine) (.ok (.val (.tuple (p.1 ++ p.2))) h)) <|
  orBad (both (asLst x) (asLst y)) (fun p => iff (p.1.length + p.2.length ≤ sizeLine) (.ok (.val (.list (p.1 ++ p.2))) h))
def rCatR : R2 := fun x y H Q => ∃ l b xs zs, x = .ref l ∧ y = .ref b ∧ Rd H l (.lst xs) ∧ Rd H b (.lst zs) ∧ xs.length + zs.length ≤ sizeLine ∧ ∀ p, H p = none → Q (.ref p) (upd H p (.lst (xs ++ zs)))
theorem Inv.lstR {pins : List (Addr × Obj)} {st : L2.St} {H : Hp} {s : Shared} {l : Addr} {xs : List V} (I : Inv X pins st H s) (hH : Rd H l (.lst xs)) : xs.length ≤ sizeLine ∧ ∃ (its : List Value) (n : Nat), Vals xs its ∧ xs.length = its.length ∧ s.heap.get? l = some { cls := .type "list", data := .seq its.toArray n } := by
  obtain ⟨z, its, n, r, e⟩ := hH.ok I.hok
  exact ⟨z, its, n, r, r.length, e⟩
theorem op_catR : OpR X (binaryOp .Add) rCatR := by
  intro pins s st H x y v u Q I rx ry h
  obtain ⟨l, b, xs, zs, rfl, rfl, hH, hB, hz, q⟩ := h
  cases rx
  cases ry
  obtain ⟨z, its, n, r, hl, e⟩ := Inv.lstR I hH
  obtain ⟨z2, its2, n2, r2, hl2, e2⟩ := Inv.lstR I hB
  refine PySem.P.add_list e e2 ?_ (by rw [List.size_toArray, List.size_toArray]; omega)
  have ea : its.toArray ++ its2.toArray = (its ++ its2).toArray := by simp
  rw [ea]
  exact ⟨.ref _, _, I.lnew (t' := s.toks) (r.append r2) (by rw [List.length_append]; omega), rfl, q _ I.fresh⟩
theorem after_lst {K : PySem.W.Frag} {mg : Str → Option Value} {W : WH} {mu : List Addr} {h : LH} {H : Hp} {ds : List D} {xs : List V} {Q : VK} (rh : RelH K H mu h) (r : RpAll K H xs ds) (q : After K mg W (rSV K) mu H (.ok (.val (.list ds)) h) Q) : ∀ p, H p = none → Fz Q (.ref p) (upd H p (.lst xs)) := fun p hp =>
  ⟨p, xs, rfl, upd_same, fun o => q _ _ mu (ext_new2 hp) (rh.new2 hp) (.lst ⟨o, upd_same⟩ (r.mono (by rw [upd_upd]; exact upd_mono hp)))⟩
theorem after_tup {K : PySem.W.Frag} {mg : Str → Option Value} {W : WH} {mu : List Addr} {h : LH} {H : Hp} {ds : List D} {xs : List V} {Q : VK} (rh : RelH K H mu h) (r : RpAll K H xs ds) (q : After K mg W (rSV K) mu H (.ok (.val (.tuple ds)) h) Q) : ∀ p, H p = none → Q (.ref p) (upd H p (.tup xs)) := fun p hp =>
  q _ _ mu (ext_new hp) (rh.new hp) (.tup (.of upd_same) (r.mono (upd_mono hp)))
theorem od_add : OpD X (binaryOp .Add) gAdd := by
  refine ⟨_, OpR.or op_add (OpR.or op_add_str (OpR.or op_catA (op_fz op_catR))), fun W mu h H v u x y Q rh r1 r2 q => ?_⟩
  rcases q.orNext with ⟨p, e, q⟩ | q
  · obtain ⟨e1, e2⟩ := both_of e
    exact .inl ⟨_, _, asInt_rel e1 r1, asInt_rel e2 r2, q.here rh (.int _)⟩
  rcases q.orNext with ⟨p, e, q⟩ | q
  · obtain ⟨e1, e2⟩ := both_of e
    obtain ⟨hz, q⟩ := q.iff
    exact .inr (.inl ⟨_, _, asStr_rel e1 r1, asStr_rel e2 r2, hz, q.here rh (.str _)⟩)
  rcases q.orNext with ⟨p, e, q⟩ | q
  · obtain ⟨e1, e2⟩ := both_of e
    obtain ⟨hz, q⟩ := q.iff
    obtain ⟨a, xs, rfl, h1, q1⟩ := asTup_rel e1 r1
    obtain ⟨b, ys, rfl, h2, q2⟩ := asTup_rel e2 r2
    refine .inr (.inr (.inl ⟨a, b, xs, ys, rfl, rfl, h1, h2, by rw [q1.length, q2.length]; exact hz, fun z => ?_, fun _ z => ?_, fun _ _ => after_tup rh (q1.append q2) q⟩))
    · subst z
      refine q.here rh (.tup h2 ?_)
      have z : p.1 = [] := by cases h : p.1 with
        | nil => rfl
        | cons a b => rw [h] at q1; cases q1
      rw [z]; exact q2
    · subst z
      refine q.here rh (.tup h1 ?_)
      have z : p.2 = [] := by cases h : p.2 with
        | nil => rfl
        | cons a b => rw [h] at q2; cases q2
      rw [z, List.append_nil]; exact q1
  · obtain ⟨p, e, q⟩ := q.orBad
    obtain ⟨e1, e2⟩ := both_of e
    obtain ⟨hz, q⟩ := q.iff
    obtain ⟨l, xs, rfl, h1, q1⟩ := asLst_rel e1 r1
    obtain ⟨b, zs, rfl, h2, q2⟩ := asLst_rel e2 r2
    exact .inr (.inr (.inr ⟨l, b, xs, zs, rfl, rfl, h1, h2, by rw [q1.length, q2.length]; exact hz, after_lst rh (q1.append q2) q⟩))

/-! ### other arithmetic -/
/-- an operation on two ints under a condition -/
def gI (C : Int → Int → Bool) (g : Int → Int → Int) (x y : SV) (h : LH) : Out SV := orBad (both (asInt x) (asInt y)) fun p => iff (C p.1 p.2 = true) (.ok (.val (.int (g p.1 p.2))) h)
theorem od_int {f : Value → Value → Sem Value} {C : Int → Int → Prop} {C' : Int → Int → Bool} {g : Int → Int → Int} (o : OpR X f (rI C fun i j => .int (g i j))) (hC : ∀ i j, C' i j = true → C i j) : OpD X f (gI C' g) := by
  refine ⟨_, o, fun W mu h H v u x y Q rh r1 r2 q => ?_⟩
  obtain ⟨p, e, q⟩ := q.orBad
  obtain ⟨e1, e2⟩ := both_of e
  obtain ⟨hz, q⟩ := q.iff
  exact ⟨_, _, asInt_rel e1 r1, asInt_rel e2 r2, hC _ _ hz, q.here rh (.int _)⟩
def gSub := gI (fun _ _ => true) fun i j => i - j
theorem od_sub : OpD X (binaryOp .Sub) gSub := od_int (C := fun _ _ => True) (opI fun _ _ _ _ _ _ _ _ q => sub_int q) fun _ _ _ => trivial
def gDiv := gI (fun _ j => decide (0 < j) && decide (j < 1073741824)) fun i j => i / j
theorem od_div : OpD X (binaryOp .FloorDiv) gDiv := od_int op_fdiv fun _ _ h => by
  rw [Bool.and_eq_true] at h
  exact ⟨of_decide_eq_true h.1, of_decide_eq_true h.2⟩
def gMod := gI (fun _ j => decide (0 < j)) fun i j => i % j
theorem od_mod : OpD X (binaryOp .Mod) gMod := od_int op_mod fun _ _ h => of_decide_eq_true h
def cPow (i j : Int) : Bool := decide (0 ≤ j) && decide (j ≤ 1000000) && decide (i.natAbs < 2 ^ 64)
def gPow := gI cPow fun i j => i ^ j.toNat
theorem od_pow : OpD X (binaryOp .Pow) gPow := od_int op_pow fun _ _ h => by
  unfold cPow at h
  rw [Bool.and_eq_true, Bool.and_eq_true] at h
  exact ⟨of_decide_eq_true h.1.1, of_decide_eq_true h.1.2, of_decide_eq_true h.2⟩
def small (i : Int) : Bool := decide (-(2 ^ 64) < i) && decide (i < 2 ^ 64)
/-- a product of ints, or a list some times -/
def gMul (x y : SV) (h : LH) : Out SV :=
  orNext (both (asInt x) (asInt y)) (fun p => iff ((small p.1 || small p.2) = true) (.ok (.val (.int (p.1 * p.2))) h)) <|
  orBad (both (asLst x) (asInt y)) (fun p => iff (0 ≤ p.2 ∧ p.2 < 2 ^ 63 ∧ p.1.length * p.2.toNat ≤ sizeLine) (.ok (.val (.list (List.replicate p.2.toNat p.1).flatten)) h))
def rRepR : R2 := fun x y H Q => ∃ l k xs, x = .ref l ∧ y = .int k ∧ Rd H l (.lst xs) ∧ -(2 ^ 63) ≤ k ∧ k < 2 ^ 63 ∧ xs.length * k.toNat ≤ sizeLine ∧
  ∀ p, H p = none → Q (.ref p) (upd H p (.lst (List.replicate k.toNat xs).flatten))
theorem op_repR : OpR X (binaryOp .Mult) rRepR := by
  intro pins s st H x y v u Q I rx ry h
  obtain ⟨l, k, xs, rfl, rfl, hH, h1, h2, hz, q⟩ := h
  cases rx
  obtain ⟨t, rfl⟩ := ry
  obtain ⟨z, its, n, r, hl, e⟩ := Inv.lstR I hH
  have hlen : its.toArray.size * k.toNat ≤ sizeLine := by rw [List.size_toArray, ← hl]; exact hz
  have hcap : ¬ its.toArray.size * k.toNat > (2 ^ 63 - 1) / 8 := by
    have : (sizeLine : Nat) ≤ (2 ^ 63 - 1) / 8 := by decide
    omega
  have hfit : ¬ (!Builtin.List.listFitsIndex k) = true := by
    rw [fitsIndex_both h1 h2]
    exact Bool.false_ne_true
  have hlong : ¬ Builtin.List.listTooLong (its.toArray.size * k.toNat) = true := by
    rw [notLongL hlen]
    exact Bool.false_ne_true
  have hnew : List.foldl (fun x1 x2 => x1 ++ x2) #[] (List.replicate (if its.toArray.isEmpty = true then 0 else k.toNat) its.toArray) = (List.replicate k.toNat its).flatten.toArray := by
    have f0 : ∀ m : Nat, List.foldl (fun x1 x2 => x1 ++ x2) #[] (List.replicate m its.toArray) = (List.replicate m its).flatten.toArray := fun m => by
      have := foldl_rep its m []
      rw [List.nil_append] at this
      exact this
    rw [f0]
    cases its with
    | nil => simp
    | cons a r' => rw [if_neg (by simp)]
  refine wpAny_binaryOp_repeat_ref (T := "list") (U := "int") (by decide) ⟨_, e, rfl⟩ (fun s' => typeIs_int s' k t) noFill_list_mul F.fills_int_mul F.slot_int_rmul repeat_list F.slot_int_index.lookup
    (call_meets F.slot_int_rmul (typeIs_int s k t) F.entry_int_rmul (F.args_int_rmul_2 _ _) (int___rmul___int_list k t l its.toArray n)
      ⟨e, rfl, ⟨_, e, rfl⟩, call_meets F.slot_list_mul ⟨_, e, rfl⟩ F.entry_list_mul (F.args_list_mul_2 _ _) (AutoListH.list___mul___list_int_3 l its.toArray n k t hfit hcap hlong) ⟨e, ?_⟩⟩)
  rw [hnew]
  exact ⟨.ref _, _, I.lnew (t' := s.toks) (r.rep k.toNat) (by rw [PyProof.Rows.lm_len_rep_flat, Nat.mul_comm]; exact hz), rfl, q _ I.fresh⟩
theorem od_mul : OpD X (binaryOp .Mult) gMul := by
  refine ⟨_, OpR.or op_mul (op_fz op_repR), fun W mu h H v u x y Q rh r1 r2 q => ?_⟩
  rcases q.orNext with ⟨p, e, q⟩ | q
  · obtain ⟨e1, e2⟩ := both_of e
    obtain ⟨hz, q⟩ := q.iff
    refine .inl ⟨_, _, asInt_rel e1 r1, asInt_rel e2 r2, ?_, q.here rh (.int _)⟩
    unfold small at hz
    rw [Bool.or_eq_true, Bool.and_eq_true, Bool.and_eq_true] at hz
    rcases hz with hz | hz
    · exact .inl ⟨of_decide_eq_true hz.1, of_decide_eq_true hz.2⟩
    · exact .inr ⟨of_decide_eq_true hz.1, of_decide_eq_true hz.2⟩
  · obtain ⟨p, e, q⟩ := q.orBad
    obtain ⟨e1, e2⟩ := both_of e
    obtain ⟨⟨z1, z2, z3⟩, q⟩ := q.iff
    obtain ⟨l, xs, rfl, h1, q1⟩ := asLst_rel e1 r1
    exact .inr ⟨l, _, xs, rfl, asInt_rel e2 r2, h1, by omega, z2, by rw [q1.length]; exact z3, after_lst rh (q1.rep _) q⟩

/-! ### comparisons -/
@[simp] def asD : SV → Option D
  | .val d => some d
  | .own ds => some (.list ds)
  | _ => none
theorem asD_dp {K : PySem.W.Frag} {H : Hp} {mu : List Addr} {v : V} {x : SV} {d : D} (h : asD x = some d) (r : RelSV K H mu v x) : Dp K H v d := by
  cases x with
  | val e => cases h; exact Rp.dp r
  | own ds =>
    cases h
    obtain ⟨a, xs, rfl, h1, _, h2⟩ := r
    exact .lst (.inl (.inl h1)) h2.dp
  | _ => cases h
/-- data that may be compared -/
def okD (d : D) : Bool := d.plain && decide (d.depth ≤ 100)
def okDs (ds : List D) : Bool := PyData.plainAll ds
theorem room_min {A : Around} {m n : Nat} (hu : A.units + 150 < cLine) (h : n ≤ 100) : A.units + min m n < cLine := by
  have := Nat.min_le_right m n
  omega
theorem room_min1 {A : Around} {m n : Nat} (hu : A.units + 150 < cLine) (h : n ≤ 100) : A.units + 1 + min m n < cLine := by
  have := Nat.min_le_right m n
  omega
theorem okD_of {d : D} (h : okD d = true) : d.plain = true ∧ d.depth ≤ 100 := by
  unfold okD at h
  rw [Bool.and_eq_true] at h
  exact ⟨h.1, of_decide_eq_true h.2⟩
/-- a comparison of data: C when it may be asked, g its answer -/
def gC (C : D → D → Bool) (g : D → D → Bool) (x y : SV) (h : LH) : Out SV := orBad (both (asD x) (asD y)) fun p => iff (C p.1 p.2 = true) (.ok (.val (.bool (g p.1 p.2))) h)
def rDat (K : PySem.W.Frag) (C : D → D → Bool) (g : D → D → Bool) : R2 := fun x y H Q => ∃ d e, Dp K H x d ∧ Dp K H y e ∧ C d e = true ∧ Q (.bl (g d e)) H
theorem od_dat {f : Value → Value → Sem Value} {C : D → D → Bool} {g : D → D → Bool} (o : OpR X f (rDat X.K C g)) : OpD X f (gC C g) := by
  refine ⟨_, o, fun W mu h H v u x y Q rh r1 r2 q => ?_⟩
  obtain ⟨p, e, q⟩ := q.orBad
  obtain ⟨e1, e2⟩ := both_of e
  obtain ⟨hz, q⟩ := q.iff
  exact ⟨_, _, asD_dp e1 r1, asD_dp e2 r2, hz, q.here rh (.bl _)⟩
theorem op_dat {f : Value → Value → Sem Value} {C : D → D → Bool} {g : D → D → Bool}
    (rule : ∀ (s : Shared) (a b : Value) (d e : D) (as bs : List Addr) (Q E : Value → Shared → Prop), Reads s.heap a d as → Reads s.heap b e bs → C d e = true → Q (.bool (g d e)) s → wpAny (model X.prog X.w) X.A (f a b) Q E s) : OpR X f (rDat X.K C g) := by
  intro pins s st H x y v u Q I rx ry h
  obtain ⟨d, e, hd, he, c, q⟩ := h
  obtain ⟨as, r1⟩ := Dp.reads I d x v hd rx
  obtain ⟨bs, r2⟩ := Dp.reads I e y u he ry
  exact rule s v u d e as bs _ _ r1 r2 c ⟨.bl _, H, I, rfl, q⟩
def cEq (d e : D) : Bool := d.plain && okD e
def gEq := gC cEq PyData.eqv
def gNe := gC cEq fun d e => !PyData.eqv d e
theorem cEq_of {d e : D} (h : cEq d e = true) : d.plain = true ∧ e.plain = true ∧ e.depth ≤ 100 := by
  unfold cEq at h
  rw [Bool.and_eq_true] at h
  exact ⟨h.1, okD_of h.2⟩
theorem od_eq (hu : X.A.units + 150 < cLine) : OpD X (compareOp .Eq) gEq := od_dat (op_dat fun s a b d e as bs Q E r1 r2 c q => by
  obtain ⟨c1, c2, c3⟩ := cEq_of c
  exact SeqAt.eq_plain r1 r2 c1 c2 (room_min hu c3) q)
theorem od_ne (hu : X.A.units + 150 < cLine) : OpD X (compareOp .NotEq) gNe := od_dat (op_dat fun s a b d e as bs Q E r1 r2 c q => by
  obtain ⟨c1, c2, c3⟩ := cEq_of c
  exact SeqAt.ne_plain r1 r2 c1 c2 (room_min hu c3) q)
@[simp] def notNone : D → Bool
  | .none => false
  | _ => true
theorem notNone_of {d : D} (h : notNone d = true) : d ≠ .none := fun e => by subst e; cases h
def cLt (d e : D) : Bool := PySem.W.alike d e && notNone d && decide (e.depth ≤ 100)
theorem cLt_of {d e : D} (h : cLt d e = true) : PySem.W.alike d e = true ∧ d ≠ .none ∧ e.depth ≤ 100 := by
  unfold cLt at h
  rw [Bool.and_eq_true, Bool.and_eq_true] at h
  exact ⟨h.1.1, notNone_of h.1.2, of_decide_eq_true h.2⟩
def gLt := gC cLt PySem.W.dataLt
def gGt := gC cLt fun d e => PySem.W.dataLt e d
def gLe := gC cLt fun d e => !PySem.W.dataLt e d
def gGe := gC cLt fun d e => !PySem.W.dataLt d e
theorem od_lt (hu : X.A.units + 150 < cLine) : OpD X (compareOp .Lt) gLt := od_dat (op_dat fun s a b d e as bs Q E r1 r2 c q => by
  obtain ⟨c1, c2, c3⟩ := cLt_of c
  exact PySem.W.lt_data r1 r2 c1 c2 (room_min hu c3) q)
theorem od_gt (hu : X.A.units + 150 < cLine) : OpD X (compareOp .Gt) gGt := od_dat (op_dat fun s a b d e as bs Q E r1 r2 c q => by
  obtain ⟨c1, c2, c3⟩ := cLt_of c
  exact PySem.W.gt_data r1 r2 c1 c2 (room_min hu c3) q)
theorem od_le (hu : X.A.units + 150 < cLine) : OpD X (compareOp .LtE) gLe := od_dat (op_dat fun s a b d e as bs Q E r1 r2 c q => by
  obtain ⟨c1, c2, c3⟩ := cLt_of c
  exact PySem.W.le_data r1 r2 c1 c2 (room_min hu c3) q)
theorem od_ge (hu : X.A.units + 150 < cLine) : OpD X (compareOp .GtE) gGe := od_dat (op_dat fun s a b d e as bs Q E r1 r2 c q => by
  obtain ⟨c1, c2, c3⟩ := cLt_of c
  exact PySem.W.ge_data r1 r2 c1 c2 (room_min hu c3) q)

/-! ### in, not in -/
@[simp] def asSeq : SV → Option (List D)
  | .val (.list ds) => some ds
  | .val (.tuple ds) => some ds
  | .own ds => some ds
  | _ => none
theorem asSeq_of {x : SV} {ds : List D} (h : asSeq x = some ds) : asLst x = some ds ∨ asTup x = some ds := by
  cases x with
  | val d => cases d <;> first | exact .inl h | exact .inr h | cases h
  | own ds => exact .inl h
  | _ => cases h
theorem asSeq_rel {K : PySem.W.Frag} {H : Hp} {mu : List Addr} {v : V} {x : SV} {i : List D} (h : asSeq x = some i) (r : RelSV K H mu v x) : ∃ a xs, v = .ref a ∧ (SqL K H a xs ∨ SqT K H a xs) ∧ RpAll K H xs i := by
  rcases asSeq_of h with h | h
  · obtain ⟨a, xs, e, q, z⟩ := asLst_rel h r
    exact ⟨a, xs, e, .inl (rd_sq q), z⟩
  · obtain ⟨a, xs, e, q, z⟩ := asTup_rel h r
    exact ⟨a, xs, e, .inr q, z⟩
def rInS (K : PySem.W.Frag) (neg : Bool) : R2 := fun x y H Q => ∃ d a xs ds, Dp K H x d ∧ y = .ref a ∧ (SqL K H a xs ∨ SqT K H a xs) ∧ DpAll K H xs ds ∧ PyData.plainAll ds = true ∧ okD d = true ∧ Q (.bl (neg ^^ ds.any fun z => PyData.eqv z d)) H
theorem op_inS (hu : X.A.units + 150 < cLine) : OpR X (compareOp .In) (rInS X.K false) := by
  intro pins s st H x y v u Q I rx ry h
  obtain ⟨d, a, xs, ds, hd, rfl, hs, he, c1, c2, q⟩ := h
  obtain ⟨c2, c3⟩ := okD_of c2
  obtain ⟨as, r1⟩ := Dp.reads I d x v hd rx
  rw [Bool.false_xor] at q
  rcases hs with hs | hs
  · obtain ⟨bs, r2⟩ := Dp.reads I (.list ds) _ u (.lst hs he) ry
    exact SeqAt.in_list_data r2 r1 c1 c2 (room_min1 hu c3) ⟨.bl _, H, I, rfl, q⟩
  · obtain ⟨bs, r2⟩ := Dp.reads I (.tuple ds) _ u (.tup hs he) ry
    exact SeqAt.in_tuple_data r2 r1 c1 c2 (room_min1 hu c3) ⟨.bl _, H, I, rfl, q⟩
theorem op_notInS (hu : X.A.units + 150 < cLine) : OpR X (compareOp .NotIn) (rInS X.K true) := by
  intro pins s st H x y v u Q I rx ry h
  obtain ⟨d, a, xs, ds, hd, rfl, hs, he, c1, c2, q⟩ := h
  obtain ⟨c2, c3⟩ := okD_of c2
  obtain ⟨as, r1⟩ := Dp.reads I d x v hd rx
  rw [Bool.true_xor] at q
  rcases hs with hs | hs
  · obtain ⟨bs, r2⟩ := Dp.reads I (.list ds) _ u (.lst hs he) ry
    exact SeqAt.notIn_list_data r2 r1 c1 c2 (room_min1 hu c3) ⟨.bl _, H, I, rfl, q⟩
  · obtain ⟨bs, r2⟩ := Dp.reads I (.tuple ds) _ u (.tup hs he) ry
    exact SeqAt.notIn_tuple_data r2 r1 c1 c2 (room_min1 hu c3) ⟨.bl _, H, I, rfl, q⟩
/-- a text of one sign -/
def sign1 (x : Str) : Option Nat := match x.cps.toList with
  | [c] => some c
  | _ => none
theorem sign1_of {x : Str} {c : Nat} (h : sign1 x = some c) : x = ⟨#[c]⟩ := by
  unfold sign1 at h
  split at h
  · rename_i d e
    cases h
    cases x
    rename_i a
    have : a = #[c] := by
      rw [← Array.toList_inj]
      exact e
    rw [this]
  · cases h
def inStr (x z : Str) : Bool := match sign1 x with
  | some c => decide (c ∈ z.cps.toList)
  | none => !(Builtin.Str.occurrences z x 0 z.length 1).isEmpty
def gIn (neg : Bool) (x y : SV) (h : LH) : Out SV :=
  orNext (both (asStr x) (asStr y)) (fun p => .ok (.val (.bool (neg ^^ inStr p.1 p.2))) h) <|
  orBad (both (asD x) (asSeq y)) (fun p => iff (PyData.plainAll p.2 = true ∧ okD p.1 = true) (.ok (.val (.bool (neg ^^ p.2.any fun z => PyData.eqv z p.1))) h))
def rInSt (neg : Bool) : R2 := fun x y H Q => ∃ i j, x = .str i ∧ y = .str j ∧ Q (.bl (neg ^^ inStr i j)) H
theorem op_inSt : OpR X (compareOp .In) (rInSt false) := by
  intro pins s st H x y v u Q I rx ry h
  obtain ⟨i, j, rfl, rfl, q⟩ := h
  rw [Bool.false_xor] at q
  unfold inStr at q
  split at q
  · rename_i c e
    have e := sign1_of e
    subst e
    exact op_in_sign pins s st H _ _ v u Q I rx ry ⟨c, j, rfl, rfl, q⟩
  · exact op_in_str pins s st H _ _ v u Q I rx ry ⟨i, j, rfl, rfl, q⟩
theorem op_notInSt : OpR X (compareOp .NotIn) (rInSt true) := by
  intro pins s st H x y v u Q I rx ry h
  obtain ⟨i, j, rfl, rfl, q⟩ := h
  rw [Bool.true_xor] at q
  unfold inStr at q
  split at q
  · rename_i c e
    have e := sign1_of e
    subst e
    exact op_notIn_sign pins s st H _ _ v u Q I rx ry ⟨c, j, rfl, rfl, q⟩
  · exact op_notin_str pins s st H _ _ v u Q I rx ry ⟨i, j, rfl, rfl, q⟩
theorem DpAll.of {K : PySem.W.Frag} {H : Hp} {xs : List V} {ds : List D} (r : RpAll K H xs ds) : DpAll K H xs ds := r.dp
theorem og_in (neg : Bool) : OpG X (fun x y H Q => rInSt neg x y H Q ∨ rInS X.K neg x y H Q) (gIn neg) := fun W mu h H v u x y Q rh r1 r2 q => by
  rcases q.orNext with ⟨p, e, q⟩ | q
  · obtain ⟨e1, e2⟩ := both_of e
    exact .inl ⟨_, _, asStr_rel e1 r1, asStr_rel e2 r2, q.here rh (.bl _)⟩
  · obtain ⟨p, e, q⟩ := q.orBad
    obtain ⟨e1, e2⟩ := both_of e
    obtain ⟨⟨c1, c2⟩, q⟩ := q.iff
    obtain ⟨a, xs, ey, hs, z⟩ := asSeq_rel e2 r2
    exact .inr ⟨_, a, xs, _, asD_dp e1 r1, ey, hs, z.dp, c1, c2, q.here rh (.bl _)⟩
theorem od_in (hu : X.A.units + 150 < cLine) : OpD X (compareOp .In) (gIn false) := ⟨_, OpR.or op_inSt (op_inS hu), og_in false⟩
theorem od_notIn (hu : X.A.units + 150 < cLine) : OpD X (compareOp .NotIn) (gIn true) := ⟨_, OpR.or op_notInSt (op_notInS hu), og_in true⟩

/-! ### is None -/
def isN : SV → Option Bool
  | .val .none => some true
  | .val _ => some false
  | .ref _ => some false
  | .own _ => some false
  | .scr _ => some false
  | .exc _ => none
theorem isN_rel {K : PySem.W.Frag} {H : Hp} {mu : List Addr} {v : V} {x : SV} {b : Bool} (h : isN x = some b) (r : RelSV K H mu v x) : decide (v = V.non) = b := by
  cases x with
  | val d => cases d <;> (cases h; cases r <;> rfl)
  | ref n => cases h; obtain ⟨a, _, rfl⟩ := r; rfl
  | own ds => cases h; obtain ⟨a, _, rfl, _⟩ := r; rfl
  | scr ds => cases h; obtain ⟨a, rfl, _⟩ := r; rfl
  | exc x => cases h
def gIs (neg : Bool) (x y : SV) (h : LH) : Out SV := orBad (both (isN x) (isN y)) fun p => iff (p.2 = true) (.ok (.val (.bool (neg ^^ p.1))) h)
theorem isN_true {K : PySem.W.Frag} {H : Hp} {mu : List Addr} {v : V} {x : SV} (h : isN x = some true) (r : RelSV K H mu v x) : v = .non := of_decide_eq_true (isN_rel h r)
theorem od_is : OpD X (compareOp .Is) (gIs false) := ⟨_, op_isN, fun W mu h H v u x y Q rh r1 r2 q => by
  obtain ⟨p, e, q⟩ := q.orBad
  obtain ⟨e1, e2⟩ := both_of e
  obtain ⟨c, q⟩ := q.iff
  rw [c] at e2
  refine ⟨isN_true e2 r2, ?_⟩
  rw [isN_rel e1 r1, ← Bool.false_xor (x := p.1)]
  exact q.here rh (.bl _)⟩
theorem od_isNot : OpD X (compareOp .IsNot) (gIs true) := ⟨_, op_notN, fun W mu h H v u x y Q rh r1 r2 q => by
  obtain ⟨p, e, q⟩ := q.orBad
  obtain ⟨e1, e2⟩ := both_of e
  obtain ⟨c, q⟩ := q.iff
  rw [c] at e2
  refine ⟨isN_true e2 r2, ?_⟩
  rw [isN_rel e1 r1, ← Bool.true_xor (x := p.1)]
  exact q.here rh (.bl _)⟩

/-! ### minus -/
def eUn (g : SV → LH → Out SV) (fa : DS → LH → Out SV) : DS → LH → Out SV := fun ds h => (fa ds h).bind g
def gNeg (x : SV) (h : LH) : Out SV := orBad (asInt x) fun i => .ok (.val (.int (-i))) h
theorem em_neg (ha : EM X W a fa) : EM X W (.UnaryOp .USub a pos) (eUn gNeg fa) := ⟨PE.imp (pe_un un_neg ha.pe) fun st H Q ⟨ds, mu, h, rs, rh, q⟩ =>
  ⟨ds, mu, h, rs, rh, After.step q fun x h1 v H1 mu1 _ e1 rh1 r1 q1 => by
    obtain ⟨i, e, q2⟩ := q1.orBad
    exact ⟨i, asInt_rel e r1, q2.here rh1 (.int _)⟩⟩⟩

/-! ### items, slices -/
def gIx (x y : SV) (h : LH) : Out SV :=
  orNext (both (asStr x) (asInt y)) (fun p => iff (p.1.length ≤ sizeLine) (orBad (atI p.1.cps.toList p.2) fun c => .ok (.val (.str ⟨#[c]⟩)) h)) <|
  orBad (both (asSeq x) (asInt y)) (fun p => orBad (atI p.1 p.2) fun d => .ok (.val d) h)
theorem atI_rel {K : PySem.W.Frag} {H : Hp} {vs : List V} {ds : List D} {i : Int} {d : D} (r : RpAll K H vs ds) (h : atI ds i = some d) : ∃ v, atI vs i = some v ∧ Rp K H v d := by
  unfold atI at h ⊢
  rw [r.length]
  cases e : ixN ds.length i with
  | none => rw [e] at h; cases h
  | some j =>
    rw [e] at h
    exact r.get h
theorem em_ix (ha : EM X W a fa) (hb : EM X W b fb) (hs : PlainIx b) : EM X W (.Subscript a b pos) (eBin gIx fa fb) := by
  refine ⟨PE.imp (pe_ix ix_seq ha.pe hb.pe hs) (LE.bin fun W mu h H v u x y Q rh r1 r2 q => ?_)⟩
  rcases q.orNext with ⟨p, e, q⟩ | q
  · obtain ⟨e1, e2⟩ := both_of e
    obtain ⟨hz, q⟩ := q.iff
    obtain ⟨c, ec, q⟩ := q.orBad
    exact .inr (.inr ⟨_, _, c, asStr_rel e1 r1, asInt_rel e2 r2, hz, ec, q.here rh (.str _)⟩)
  · obtain ⟨p, e, q⟩ := q.orBad
    obtain ⟨e1, e2⟩ := both_of e
    obtain ⟨d, ed, q⟩ := q.orBad
    obtain ⟨a, xs, ex, hs, z⟩ := asSeq_rel e1 r1
    obtain ⟨v', ev, rv⟩ := atI_rel z ed
    rcases hs with hs | hs
    · exact .inl ⟨a, xs, _, v', ex, asInt_rel e2 r2, hs, ev, q.here rh rv⟩
    · exact .inr (.inl ⟨a, xs, _, v', ex, asInt_rel e2 r2, hs, ev, q.here rh rv⟩)
/-- a part of a slice -/
structure OM (X : Cx) (W : WX) (e : Option Expr) (f : DS → LH → Out (Option Int)) : Prop where
  po : PO X e fun st H Q => ∃ ds mu h, RelS X.K X.mg X.pn H mu st ds ∧ RelH X.K H mu h ∧ After X.K X.mg (fun c dd H' => W c dd st H') (fun _ _ (v : Option Int) b => v = b) mu H (f ds h) Q
theorem PO.imp {e : Option Expr} {t t' : TO} (h : PO X e t) (i : ∀ st H Q, t' st H Q → t st H Q) : PO X e t' := ⟨fun pins s st H Q I q => h.run pins s st H Q I (i _ _ _ q)⟩
def oNone : DS → LH → Out (Option Int) := fun _ h => .ok none h
def oSome (fa : DS → LH → Out SV) : DS → LH → Out (Option Int) := fun ds h => (fa ds h).bind fun x h1 => orBad (asInt x) fun i => .ok (some i) h1
theorem om_none : OM X W none oNone := ⟨PO.imp po_none fun st H Q ⟨ds, mu, h, rs, rh, q⟩ => q.here rh rfl⟩
theorem om_some (ha : EM X W a fa) : OM X W (some a) (oSome fa) := ⟨PO.imp (po_some ha.pe) fun st H Q ⟨ds, mu, h, rs, rh, q⟩ =>
  ⟨ds, mu, h, rs, rh, After.step q fun x h1 v H1 mu1 _ e1 rh1 r1 q1 => by
    obtain ⟨i, e, q2⟩ := q1.orBad
    exact ⟨i, asInt_rel e r1, q2.here rh1 rfl⟩⟩⟩
def cutD (xs : List D) (lo hi : Option Int) : List D := (xs.drop (HT.sIx xs.length 0 lo)).take (HT.sIx xs.length xs.length hi - HT.sIx xs.length 0 lo)
theorem cut_rel {K : PySem.W.Frag} {H : Hp} {vs : List V} {ds : List D} (r : RpAll K H vs ds) (lo hi : Option Int) : RpAll K H (cutV vs lo hi) (cutD ds lo hi) := by
  unfold cutV cutD
  rw [r.length]
  exact (r.drop _).take _
theorem cut_whole {K : PySem.W.Frag} {H : Hp} {vs : List V} {ds : List D} (r : RpAll K H vs ds) {lo hi : Option Int} (h : HT.sIx vs.length 0 lo = 0 ∧ HT.sIx vs.length vs.length hi = vs.length) : cutD ds lo hi = ds := by
  unfold cutD
  rw [← r.length, h.1, h.2, r.length]
  simp
def gSl (x : SV) (lo hi : Option Int) (h : LH) : Out SV :=
  orNext (asStr x) (fun z => iff (z.length ≤ sizeLine) (.ok (.val (.str (cutS z lo hi))) h)) <|
  orNext (asTup x) (fun xs => .ok (.val (.tuple (cutD xs lo hi))) h) <|
  orBad (asLst x) (fun xs => .ok (.val (.list (cutD xs lo hi))) h)
def eSl (fa : DS → LH → Out SV) (fl fu : DS → LH → Out (Option Int)) : DS → LH → Out SV := fun ds h => (fa ds h).bind fun x h1 => (fl ds h1).bind fun lo h2 => (fu ds h2).bind fun hi h3 => gSl x lo hi h3
theorem sl_fz {r : V → Option Int → Option Int → Hp → VK → Prop} (h : SlR X r) : SlR X (fun x lo hi H Q => r x lo hi H (Fz Q)) := fun pins s st H x v vl vu lo hi sl Q I rx hs pl pu q => by
  obtain ⟨T, id, h1, h2, h3⟩ := h pins s st H x v vl vu lo hi sl _ I rx hs pl pu q
  exact ⟨T, id, h1, h2, thn h3 fun _ _ z => ep_fz z⟩
theorem em_sl {lo hi : Option Expr} {fl fu : DS → LH → Out (Option Int)} {p2 : Pos} (ha : EM X W a fa) (hl : OM X W lo fl) (hh : OM X W hi fu) : EM X W (.Subscript a (.Slice lo hi none p2) pos) (eSl fa fl fu) := by
  refine ⟨PE.imp (pe_slice (SlR.or sl_str (SlR.or sl_tupA (sl_fz sl_list))) ha.pe hl.po hh.po) ?_⟩
  rintro st H Q ⟨ds, mu, h, rs, rh, q⟩
  refine ⟨ds, mu, h, rs, rh, After.step q fun x h1 v H1 mu1 _ e1 rh1 r1 q1 => ?_⟩
  refine ⟨ds, mu1, h1, rs.ext e1, rh1, After.step q1 fun l h2 l' H2 mu2 _ e2 rh2 r2 q2 => ?_⟩
  refine ⟨ds, mu2, h2, (rs.ext e1).ext e2, rh2, After.step q2 fun u h3 u' H3 mu3 _ e3 rh3 r3 q3 => ?_⟩
  subst r2 r3
  have r1 := (r1.ext e2).ext e3
  rcases q3.orNext with ⟨z, e, q⟩ | q
  · obtain ⟨hz, q⟩ := q.iff
    exact .inl ⟨z, asStr_rel e r1, hz, q.here rh3 (.str _)⟩
  rcases q.orNext with ⟨z, e, q⟩ | q
  · obtain ⟨a, xs, rfl, hs, rr⟩ := asTup_rel e r1
    refine .inr (.inl ⟨a, xs, rfl, hs, fun w => q.here rh3 (.tup hs ?_), fun _ => after_tup rh3 (cut_rel rr _ _) q⟩)
    rw [cut_whole rr w]; exact rr
  · obtain ⟨z, e, q⟩ := q.orBad
    obtain ⟨a, xs, rfl, hs, rr⟩ := asLst_rel e r1
    exact .inr (.inr ⟨a, xs, rfl, rd_sq hs, after_lst rh3 (cut_rel rr _ _) q⟩)
end
end U
/-! U3: names, constants, displays, tests, calls of built-ins and methods. -/
namespace U
open PySem PySem.Spec PyProof.Rows L2
section
variable {X : Cx} {W : WX} {a b c e : Expr} {fa fb fc f : DS → LH → Out SV} {pos p : Pos} {x : Str}

/-! ### names and constants -/
/-- what a slot holds (no caught exception) -/
def slot (ds : DS) (i : Nat) : Option SV := match ds[i]? with
  | some (some (.exc _)) => none
  | some (some s) => some s
  | _ => none
theorem slot_of {ds : DS} {i : Nat} {s : SV} (h : slot ds i = some s) : ds[i]? = some (some s) ∧ ∀ x, s ≠ .exc x := by
  unfold slot at h
  split at h
  · cases h
  · rename_i s' n e
    cases h
    exact ⟨e, fun x z => n x z⟩
  · cases h
def eVar (i : Nat) : DS → LH → Out SV := fun ds h => orBad (slot ds i) fun s => .ok s h
theorem LE.var {i : Nat} : ∀ st H Q, LE X W (eVar i) st H Q → tVar i st H Q := by
  rintro st H Q ⟨ds, mu, h, rs, rh, q⟩
  obtain ⟨s, e, q⟩ := q.orBad
  obtain ⟨e, n⟩ := slot_of e
  obtain ⟨v, ev, r⟩ := rs.at_ i s e n
  exact ⟨v, ev, q.here rh r⟩
theorem em_var (i : Nat) (hN : X.N[i]? = some x) (hv : Vis X.env.scope x) (hd : (x == ("__debug__" : Str)) = false := by decide) (hcd : (x == ("__classdict__" : Str)) = false := by decide) : EM X W (.Name x pos) (eVar i) :=
  ⟨PE.imp (pe_var hN hv hd hcd) LE.var⟩
/-- data at once -/
def eC (d : D) : DS → LH → Out SV := fun _ h => .ok (.val d) h
def Sca (v : V) (d : D) : Prop := ∀ (K : PySem.W.Frag) (H : Hp), Rp K H v d
theorem LE.const {v : V} {d : D} (r : Sca v d) : ∀ st H Q, LE X W (eC d) st H Q → tC v st H Q := fun st H Q ⟨ds, mu, h, rs, rh, q⟩ => q.here rh (r _ _)
theorem em_int {i j} : EM X W (.Constant (.int i) j pos) (eC (.int i)) := ⟨PE.imp pe_int (LE.const fun _ _ => .int i)⟩
theorem em_bool {i j} : EM X W (.Constant (.bool i) j pos) (eC (.bool i)) := ⟨PE.imp pe_bl (LE.const fun _ _ => .bl i)⟩
theorem em_none {j} : EM X W (.Constant .none j pos) (eC .none) := ⟨PE.imp pe_non (LE.const fun _ _ => .non)⟩
theorem em_str {i j} : EM X W (.Constant (.str i) j pos) (eC (.str i)) := ⟨PE.imp pe_str (LE.const fun _ _ => .str i)⟩
/-- a constant of the module -/
theorem em_gint {i : Int} {t : Tok} (hg : Gl X x) (hm : X.mg x = some (.int i t)) (hd : (x == ("__debug__" : Str)) = false := by decide) : EM X W (.Name x pos) (eC (.int i)) := ⟨PE.imp (pe_glob (v := .int i) hg hm ⟨t, rfl⟩ hd) (LE.const fun _ _ => .int i)⟩
theorem em_gstr {i : Str} {t : Tok} (hg : Gl X x) (hm : X.mg x = some (.str i t)) (hd : (x == ("__debug__" : Str)) = false := by decide) : EM X W (.Name x pos) (eC (.str i)) := ⟨PE.imp (pe_glob (v := .str i) hg hm ⟨t, rfl⟩ hd) (LE.const fun _ _ => .str i)⟩

/-! ### lists of arguments, displays -/
variable {es : List Expr} {fs : DS → LH → Out (List SV)}
def aNil : DS → LH → Out (List SV) := fun _ h => .ok [] h
def aCons (fa : DS → LH → Out SV) (fs : DS → LH → Out (List SV)) : DS → LH → Out (List SV) := fun ds h => (fa ds h).bind fun x h1 => (fs ds h1).bind fun xs h2 => .ok (x :: xs) h2
theorem am_nil : AM X W [] aNil := ⟨PA.imp pa_nil fun st H Q ⟨ds, mu, h, rs, rh, q⟩ => q.here rh .nil⟩
theorem am_cons (ha : EM X W a fa) (hs : AM X W es fs) (hst : starEach (a :: es) X.env = (false, eval a X.env) :: starEach es X.env := by rfl) : AM X W (a :: es) (aCons fa fs) :=
  ⟨PA.imp (pa_cons ha.pe hs.pa hst) fun st H Q ⟨ds, mu, h, rs, rh, q⟩ => ⟨ds, mu, h, rs, rh, After.step q fun x h1 v H1 mu1 _ e1 rh1 r1 q1 =>
    ⟨ds, mu1, h1, rs.ext e1, rh1, After.step q1 fun xs h2 vs H2 mu2 _ e2 rh2 r2 q2 => q2.here rh2 (.cons (r1.ext e2) r2)⟩⟩⟩
/-- data of each -/
@[simp] def asVal : SV → Option D
  | .val d => some d
  | _ => none
@[simp] def asVals : List SV → Option (List D)
  | [] => some []
  | x :: xs => match asVal x, asVals xs with
    | some d, some ds => some (d :: ds)
    | _, _ => none
theorem asVal_of {x : SV} {d : D} (h : asVal x = some d) : x = .val d := by
  cases x <;> first | (cases h; rfl) | cases h
theorem asVals_rel {K : PySem.W.Frag} {H : Hp} {mu : List Addr} : ∀ {ss : List SV} {vs : List V} {ds : List D}, asVals ss = some ds → All2 (RelSV K H mu) vs ss → RpAll K H vs ds
  | [], _, _, h, r => by cases h; cases r; exact .nil
  | s :: ss, _, ds, h, r => by
    cases r with
    | cons r1 r2 =>
      cases e1 : asVal s with
      | none =>
        unfold asVals at h
        rw [e1] at h
        cases h
      | some d =>
        cases e2 : asVals ss with
        | none =>
          unfold asVals at h
          rw [e1, e2] at h
          cases h
        | some ds' =>
          unfold asVals at h
          rw [e1, e2] at h
          cases h
          have e := asVal_of e1
          subst e
          exact .cons r1 (asVals_rel e2 r2)
def gTup (xs : List SV) (h : LH) : Out SV := orBad (asVals xs) fun ds => iff (ds.length ≤ sizeLine) (.ok (.val (.tuple ds)) h)
def gLst (xs : List SV) (h : LH) : Out SV := orBad (asVals xs) fun ds => iff (ds.length ≤ sizeLine) (.ok (.val (.list ds)) h)
def eArgs (g : List SV → LH → Out SV) (fs : DS → LH → Out (List SV)) : DS → LH → Out SV := fun ds h => (fs ds h).bind g
theorem em_tup {k} (hs : AM X W es fs) : EM X W (.Tuple es k pos) (eArgs gTup fs) := ⟨PE.imp (pe_tup hs.pa) fun st H Q ⟨ds, mu, h, rs, rh, q⟩ => ⟨ds, mu, h, rs, rh, After.step q fun xs h1 vs H1 mu1 _ e1 rh1 r1 q1 => by
  obtain ⟨l, e, q2⟩ := q1.orBad
  obtain ⟨hz, q2⟩ := q2.iff
  have rr := asVals_rel e r1
  exact ⟨by rw [rr.length]; exact hz, after_tup rh1 rr q2⟩⟩⟩
theorem em_lst (hs : AM X W es fs) : EM X W (.List es pos) (eArgs gLst fs) := ⟨PE.imp (pe_fz (pe_lst hs.pa)) fun st H Q ⟨ds, mu, h, rs, rh, q⟩ => ⟨ds, mu, h, rs, rh, After.step q fun xs h1 vs H1 mu1 _ e1 rh1 r1 q1 => by
  obtain ⟨l, e, q2⟩ := q1.orBad
  obtain ⟨hz, q2⟩ := q2.iff
  have rr := asVals_rel e r1
  exact ⟨by rw [rr.length]; exact hz, after_lst rh1 rr q2⟩⟩⟩
/-- .. a list of one's own -/
def eArgsF (fs : DS → LH → Out (List SV)) : DS → LH → Out (List D) := fun ds h => (fs ds h).bind fun xs h1 => orBad (asVals xs) fun ds => iff (ds.length ≤ sizeLine) (.ok ds h1)
theorem fm_lst (hs : AM X W es fs) : FM X W (.List es pos) (eArgsF fs) := ⟨PE.imp (pe_lst hs.pa) fun st H Q ⟨ds, mu, h, rs, rh, q⟩ => ⟨ds, mu, h, rs, rh, After.step q fun xs h1 vs H1 mu1 _ e1 rh1 r1 q1 => by
  obtain ⟨l, e, q2⟩ := q1.orBad
  obtain ⟨hz, q2⟩ := q2.iff
  have rr := asVals_rel e r1
  refine ⟨by rw [rr.length]; exact hz, fun p hp => q2 _ _ mu1 (ext_new hp) (rh1.new hp) ⟨p, vs, rfl, ?_, rh1.notin hp, upd_same, rr.mono (upd_mono hp)⟩⟩
  cases z : H p with
  | none => rfl
  | some u => exact absurd hp (e1.live p (by rw [z]; simp))⟩⟩
/-- the same, frozen at once -/
def eFz (f : DS → LH → Out (List D)) : DS → LH → Out SV := fun ds h => (f ds h).bind fun l h1 => .ok (.val (.list l)) h1
theorem RelPV.mono {K : PySem.W.Frag} {H H' : Hp} {mu : List Addr} (m : Mono H H') {v : V} : ∀ {s : SV}, RelPV K H mu v s → RelPV K H' mu v s
  | .val _, ⟨p, r⟩ => ⟨p, r.mono m⟩
  | .ref _, ⟨p, r⟩ => ⟨p, r⟩
  | .own _, ⟨p, _⟩ => p.elim
  | .exc _, ⟨p, _⟩ => p.elim
  | .scr _, ⟨p, _⟩ => p.elim
theorem mono_frz {H : Hp} {p : Addr} {o : Obj} {xs : List V} (e : H p = some (.lst xs)) : Mono H (upd H p (.frz o (.lst xs))) :=
  ⟨fun b ys q => by rw [upd_ne (ne_of q e (by intro z; cases z))]; exact q, fun b o' u q => by rw [upd_ne (ne_of q e (by intro z; cases z))]; exact q⟩
theorem RelH.frz {K : PySem.W.Frag} {H : Hp} {mu : List Addr} {h : LH} (r : RelH K H mu h) {p : Addr} {o : Obj} {xs : List V} (n : p ∉ mu) (e : H p = some (.lst xs)) : RelH K (upd H p (.frz o (.lst xs))) mu h :=
  ⟨r.len, r.nd, fun m a g h1 h2 => (r.at_ m a g h1 h2).keep (fun u q => by rw [upd_ne (fun z => n (by rw [← z]; exact List.mem_of_getElem? h1))]; exact q) fun _ _ q => q.mono (mono_frz e)⟩
theorem Ext.frz {mu mu' : List Addr} {H H' : Hp} (x : Ext mu H mu' H') {p : Addr} {o : Obj} {xs : List V} (n : H p = none) (e : H' p = some (.lst xs)) : Ext mu H mu' (upd H' p (.frz o (.lst xs))) where
  mono := x.mono.trans (mono_frz e)
  keep := fun b u q hb => by rw [upd_ne (ne_of_none q n)]; exact x.keep b u q hb
  more := x.more
  live := fun b q => by
    by_cases z : b = p
    · subst z; rw [upd_same]; simp
    · rw [upd_ne z]; exact x.live b q
theorem em_fz {f : DS → LH → Out (List D)} (h : FM X W e f) : EM X W e (eFz f) := ⟨PE.imp (pe_fz h.pe) fun st H Q ⟨ds, mu, h, rs, rh, q⟩ => ⟨ds, mu, h, rs, rh, After.step q fun l h1 v H1 mu1 eo e1 rh1 r1 q1 => by
  obtain ⟨a, xs, rfl, n, m, e, rr⟩ := r1
  have q : After X.K X.mg (fun c dd H' => W c dd st H') (rSV X.K) mu H ((f ds h).bind fun l h1 => .ok (.val (.list l)) h1) Q := q
  rw [eo] at q
  exact ⟨a, xs, rfl, e, fun o => q _ _ mu1 (e1.frz n e) (rh1.frz m e) (.lst ⟨o, upd_same⟩ (rr.mono (mono_frz e)))⟩⟩⟩
/-- read only -/
def eOwn (f : DS → LH → Out (List D)) : DS → LH → Out SV := fun ds h => (f ds h).bind fun l h1 => .ok (.own l) h1
theorem em_own {f : DS → LH → Out (List D)} (h : FM X W e f) : EM X W e (eOwn f) := ⟨PE.imp h.pe fun st H Q ⟨ds, mu, h, rs, rh, q⟩ => ⟨ds, mu, h, rs, rh, After.step q fun l h1 v H1 mu1 _ e1 rh1 r1 q1 => by
  obtain ⟨a, xs, rfl, n, m, e, rr⟩ := r1
  exact q1.here rh1 ⟨a, xs, rfl, e, m, rr⟩⟩⟩

/-! ### tests -/
variable {ta tb : DS → LH → Out Bool} {rest : List Expr}
/-- a test whatever its whole is -/
structure WM (X : Cx) (W : WX) (e : Expr) (f : DS → LH → Out Bool) : Prop where
  pw : PW X e (LT X W f)
theorem PW.imp {e : Expr} {t t' : TT} (h : PW X e t) (i : ∀ st H Q, t' st H Q → t st H Q) : PW X e t' := ⟨fun wh pins s st H Q I q => h.run wh pins s st H Q I (i _ _ _ q)⟩
theorem WM.tm {f : DS → LH → Out Bool} (h : WM X W e f) : TM X W e f := ⟨h.pw.pt⟩
def tAnd' (fa fb : DS → LH → Out Bool) : DS → LH → Out Bool := fun ds h => (fa ds h).bind fun b h1 => match b with
  | true => fb ds h1
  | false => .ok false h1
def tOr' (fa fb : DS → LH → Out Bool) : DS → LH → Out Bool := fun ds h => (fa ds h).bind fun b h1 => match b with
  | true => .ok true h1
  | false => fb ds h1
def tNot' (fa : DS → LH → Out Bool) : DS → LH → Out Bool := fun ds h => (fa ds h).bind fun b h1 => .ok (!b) h1
theorem wm_and1 (ha : TM X W a ta) : WM X W (.BoolOp .And [a] pos) ta := ⟨pw_and1 ha.pt⟩
theorem wm_or1 (ha : TM X W a ta) : WM X W (.BoolOp .Or [a] pos) ta := ⟨pw_or1 ha.pt⟩
theorem wm_and (ha : TM X W a ta) (hb : WM X W (.BoolOp .And (b :: rest) pos) tb) : WM X W (.BoolOp .And (a :: b :: rest) pos) (tAnd' ta tb) := ⟨PW.imp (pw_and ha.pt hb.pw) fun st H Q ⟨ds, mu, h, rs, rh, q⟩ => ⟨ds, mu, h, rs, rh, After.step q fun c h1 v H1 mu1 _ e1 rh1 r1 q1 => by
  subst r1
  cases v with
  | true => exact iteT ⟨ds, mu1, h1, rs.ext e1, rh1, q1⟩
  | false => exact iteF (q1.here rh1 rfl)⟩⟩
theorem wm_or (ha : TM X W a ta) (hb : WM X W (.BoolOp .Or (b :: rest) pos) tb) : WM X W (.BoolOp .Or (a :: b :: rest) pos) (tOr' ta tb) := ⟨PW.imp (pw_or ha.pt hb.pw) fun st H Q ⟨ds, mu, h, rs, rh, q⟩ => ⟨ds, mu, h, rs, rh, After.step q fun c h1 v H1 mu1 _ e1 rh1 r1 q1 => by
  subst r1
  cases v with
  | false => exact iteF ⟨ds, mu1, h1, rs.ext e1, rh1, q1⟩
  | true => exact iteT (q1.here rh1 rfl)⟩⟩
theorem tm_not (ha : TM X W a ta) : TM X W (.UnaryOp .Not a pos) (tNot' ta) := ⟨PT.imp (pt_not ha.pt) fun st H Q ⟨ds, mu, h, rs, rh, q⟩ => ⟨ds, mu, h, rs, rh, After.step q fun c h1 v H1 mu1 _ e1 rh1 r1 q1 => by
  subst r1
  exact q1.here rh1 rfl⟩⟩
/-- truth of any value -/
@[simp] def tru : SV → Option Bool
  | .val .none => some false
  | .val (.bool b) => some b
  | .val (.int i) => some (i != 0)
  | .val (.str x) => if x.length ≤ sizeLine then some ((x.length : Int) != 0) else none
  | .val (.list ds) => some (!ds.isEmpty)
  | .val (.tuple ds) => some (!ds.isEmpty)
  | .own ds => some (!ds.isEmpty)
  | _ => none
theorem isEmpty_rel {K : PySem.W.Frag} {H : Hp} {vs : List V} {ds : List D} (r : RpAll K H vs ds) : (!ds.isEmpty) = !vs.isEmpty := by cases r <;> rfl
theorem tru_rel {K : PySem.W.Frag} {H : Hp} {mu : List Addr} {v : V} {s : SV} {k : Bool} (h : tru s = some k) (r : RelSV K H mu v s) : TruV K v H k := by
  cases s with
  | val d =>
    cases d with
    | none => cases h; cases r; rfl
    | bool b => cases h; cases r; rfl
    | int i => cases h; cases r; rfl
    | str x =>
      cases r
      by_cases z : x.length ≤ sizeLine
      · simp only [tru, if_pos z, Option.some.injEq] at h
        exact ⟨z, h.symm⟩
      · simp only [tru, if_neg z] at h
        cases h
    | list ds =>
      cases h
      cases r with
      | lst f q => exact .inl ⟨_, f.sq, isEmpty_rel q⟩
    | tuple ds =>
      cases h
      cases r with
      | tup f q => exact .inr (.inl ⟨_, f, isEmpty_rel q⟩)
    | dict _ => cases h
  | own ds =>
    cases h
    obtain ⟨a, xs, rfl, e, _, q⟩ := r
    exact .inl ⟨_, rd_sq (.inl e), isEmpty_rel q⟩
  | _ => cases h
def tTru (f : DS → LH → Out SV) : DS → LH → Out Bool := fun ds h => (f ds h).bind fun x h1 => orBad (tru x) fun b => .ok b h1
/-- an expression of any kind as a test -/
theorem tm_tru (ha : EM X W a fa) (he : ∀ whole, isTrue a X.env whole = (do let v ← whole; standAt a.pos; holding [v] (truthy v)) := by intro _; rfl) : TM X W a (tTru fa) :=
  ⟨PT.imp (pt_truth ha.pe he) fun st H Q ⟨ds, mu, h, rs, rh, q⟩ => ⟨ds, mu, h, rs, rh, After.step q fun c h1 v H1 mu1 _ e1 rh1 r1 q1 => by
    obtain ⟨b, e, q2⟩ := q1.orBad
    exact ⟨b, tru_rel e r1, q2.here rh1 rfl⟩⟩⟩
/-- and, or of values that are bools (the last one of any kind) -/
def eAndV (fa fb : DS → LH → Out SV) : DS → LH → Out SV := fun ds h => (fa ds h).bind fun x h1 => orBad (asBool x) fun b => match b with
  | true => fb ds h1
  | false => .ok (.val (.bool false)) h1
def eOrV (fa fb : DS → LH → Out SV) : DS → LH → Out SV := fun ds h => (fa ds h).bind fun x h1 => orBad (asBool x) fun b => match b with
  | true => .ok (.val (.bool true)) h1
  | false => fb ds h1
theorem em_one {op} (ha : EM X W a fa) : EM X W (.BoolOp op [a] pos) fa := ⟨pe_one ha.pe⟩
theorem em_and (ha : EM X W a fa) (hb : EM X W (.BoolOp .And (b :: rest) pos) fb) : EM X W (.BoolOp .And (a :: b :: rest) pos) (eAndV fa fb) := ⟨PE.imp (pe_and ha.pe hb.pe) fun st H Q ⟨ds, mu, h, rs, rh, q⟩ => ⟨ds, mu, h, rs, rh, After.step q fun c h1 v H1 mu1 _ e1 rh1 r1 q1 => by
  obtain ⟨k, e, q2⟩ := q1.orBad
  refine ⟨k, asBool_rel e r1, ?_⟩
  cases k with
  | true => exact iteT ⟨ds, mu1, h1, rs.ext e1, rh1, q2⟩
  | false => exact iteF (q2.here rh1 (.bl _))⟩⟩
theorem em_or (ha : EM X W a fa) (hb : EM X W (.BoolOp .Or (b :: rest) pos) fb) : EM X W (.BoolOp .Or (a :: b :: rest) pos) (eOrV fa fb) := ⟨PE.imp (pe_or ha.pe hb.pe) fun st H Q ⟨ds, mu, h, rs, rh, q⟩ => ⟨ds, mu, h, rs, rh, After.step q fun c h1 v H1 mu1 _ e1 rh1 r1 q1 => by
  obtain ⟨k, e, q2⟩ := q1.orBad
  refine ⟨k, asBool_rel e r1, ?_⟩
  cases k with
  | false => exact iteF ⟨ds, mu1, h1, rs.ext e1, rh1, q2⟩
  | true => exact iteT (q2.here rh1 (.bl _))⟩⟩
def eNotV (fa : DS → LH → Out SV) : DS → LH → Out SV := fun ds h => (fa ds h).bind fun x h1 => orBad (asBool x) fun b => .ok (.val (.bool (!b))) h1
theorem em_not (ha : EM X W a fa) : EM X W (.UnaryOp .Not a pos) (eNotV fa) := ⟨PE.imp (pe_not ha.pe) fun st H Q ⟨ds, mu, h, rs, rh, q⟩ => ⟨ds, mu, h, rs, rh, After.step q fun c h1 v H1 mu1 _ e1 rh1 r1 q1 => by
  obtain ⟨k, e, q2⟩ := q1.orBad
  exact ⟨k, asBool_rel e r1, q2.here rh1 (.bl _)⟩⟩⟩
/-- a if t else b -/
def eIf (t : DS → LH → Out Bool) (fa fb : DS → LH → Out SV) : DS → LH → Out SV := fun ds h => (t ds h).bind fun b h1 => match b with
  | true => fa ds h1
  | false => fb ds h1
theorem em_if (hc : TM X W c ta) (ha : EM X W a fa) (hb : EM X W b fb) : EM X W (.IfExp c a b pos) (eIf ta fa fb) := ⟨PE.imp (pe_ifExp hc.pt ha.pe hb.pe) fun st H Q ⟨ds, mu, h, rs, rh, q⟩ => ⟨ds, mu, h, rs, rh, After.step q fun c h1 v H1 mu1 _ e1 rh1 r1 q1 => by
  subst r1
  cases v with
  | true => exact iteT ⟨ds, mu1, h1, rs.ext e1, rh1, q1⟩
  | false => exact iteF ⟨ds, mu1, h1, rs.ext e1, rh1, q1⟩⟩⟩
/-- a < b < c -/
def eChain (g g' : SV → SV → LH → Out SV) (fa fb fc : DS → LH → Out SV) : DS → LH → Out SV := fun ds h => (fa ds h).bind fun x h1 => (fb ds h1).bind fun y h2 => (g x y h2).bind fun z h3 => orBad (asBool z) fun k => match k with
  | true => (fc ds h3).bind fun w h4 => g' y w h4
  | false => .ok (.val (.bool false)) h3
theorem LE.chain {r r' : R2} {g g' : SV → SV → LH → Out SV} (hg : OpG X r g) (hg' : OpG X r' g') : ∀ st H Q, LE X W (eChain g g' fa fb fc) st H Q → tChain r r' (LE X W fa) (LE X W fb) (LE X W fc) st H Q := by
  rintro st H Q ⟨ds, mu, h, rs, rh, q⟩
  refine ⟨ds, mu, h, rs, rh, After.step q fun x h1 v H1 mu1 _ e1 rh1 r1 q1 => ⟨ds, mu1, h1, rs.ext e1, rh1, After.step q1 fun y h2 u H2 mu2 _ e2 rh2 r2 q2 => hg _ mu2 h2 H2 v u x y _ rh2 (r1.ext e2) r2 (After.step q2 fun z h3 z' H3 mu3 _ e3 rh3 r3 q3 => ?_)⟩⟩
  obtain ⟨k, e, q4⟩ := q3.orBad
  refine ⟨k, asBool_rel e r3, ?_⟩
  cases k with
  | false => exact iteF (q4.here rh3 (.bl _))
  | true => exact iteT ⟨ds, mu3, h3, ((rs.ext e1).ext e2).ext e3, rh3, After.step q4 fun w h4 w' H4 mu4 _ e4 rh4 r4 q5 => hg' _ mu4 h4 H4 u w' y w Q rh4 ((r2.ext e3).ext e4) r4 q5⟩
theorem em_chain {op op' : CmpOp} {g g' : SV → SV → LH → Out SV} (ho : OpD X (compareOp op) g) (ho' : OpD X (compareOp op') g') (ha : EM X W a fa) (hb : EM X W b fb) (hc : EM X W c fc)
    (hm : lastMarks [op, op'] [b, c] = false := by with_unfolding_all rfl) : EM X W (.Compare a [op, op'] [b, c] pos) (eChain g g' fa fb fc) := by
  obtain ⟨r, hr, hg⟩ := ho
  obtain ⟨r', hr', hg'⟩ := ho'
  exact ⟨PE.imp (pe_chain hr hr' ha.pe hb.pe hc.pe hm) (LE.chain hg hg')⟩
theorem tm_chain {op op' : CmpOp} {g g' : SV → SV → LH → Out SV} (ho : OpD X (compareOp op) g) (ho' : OpD X (compareOp op') g') (ha : EM X W a fa) (hb : EM X W b fb) (hc : EM X W c fc)
    (hm : lastMarks [op, op'] [b, c] = false := by with_unfolding_all rfl) : TM X W (.Compare a [op, op'] [b, c] pos) (tOf (eChain g g' fa fb fc)) := by
  obtain ⟨r, hr, hg⟩ := ho
  obtain ⟨r', hr', hg'⟩ := ho'
  exact ⟨PT.imp (pt_chain hr hr' ha.pe hb.pe hc.pe hm) fun st H Q q => by
    obtain ⟨ds, mu, h, rs, rh, q⟩ := LE.test st H Q q
    exact LE.chain hg hg' st H _ ⟨ds, mu, h, rs, rh, q⟩⟩

/-! ### calls of built-ins by name -/
def CallG (X : Cx) (r : List V → Hp → VK → Prop) (g : List SV → LH → Out SV) : Prop := ∀ (W : WH) (mu : List Addr) (h : LH) (H : Hp) (vs : List V) (ss : List SV) (Q : VK), RelH X.K H mu h → All2 (RelSV X.K H mu) vs ss → After X.K X.mg W (rSV X.K) mu H (g ss h) Q → r vs H Q
def CallD (X : Cx) (f : Value) (g : List SV → LH → Out SV) : Prop := ∃ r, CallR X f r ∧ CallG X r g
theorem LE.call {r : List V → Hp → VK → Prop} {g : List SV → LH → Out SV} (hg : CallG X r g) : ∀ st H Q, LE X W (eArgs g fs) st H Q → tCB r (LA X W fs) st H Q := fun st H Q ⟨ds, mu, h, rs, rh, q⟩ =>
  ⟨ds, mu, h, rs, rh, After.step q fun xs h1 vs H1 mu1 _ e1 rh1 r1 q1 => hg _ mu1 h1 H1 vs xs Q rh1 r1 q1⟩
theorem em_callB {id : String} {g : List SV → LH → Out SV} (hc : CallD X (.builtin id) g) (hg : Gl X x) (hm : X.mg x = none) (hv : bootBuiltins x = some (.builtin id)) (ha : AM X W (e :: es) fs) (hn : x ≠ "__name__" := by decide) (hdb : (x == ("__debug__" : Str)) = false := by decide)
    (he : starEach (e :: es) X.env = (false, eval e X.env) :: starEach es X.env := by rfl) (hpl : (backTo pos (starEach es X.env)).any (·.1) = false := by rfl) : EM X W (.Call (.Name x p) (e :: es) [] pos) (eArgs g fs) := by
  obtain ⟨r, hr, hG⟩ := hc
  exact ⟨PE.imp (pe_callB hr hg hm hv ha.pa hn hdb he hpl) (LE.call hG)⟩
theorem em_callTy {T : String} {g : List SV → LH → Out SV} (hc : CallD X (.type T) g) (hg : Gl X x) (hm : X.mg x = none) (hv : bootBuiltins x = some (.type T)) (ha : AM X W (e :: es) fs) (hn : x ≠ "__name__" := by decide) (hdb : (x == ("__debug__" : Str)) = false := by decide)
    (he : starEach (e :: es) X.env = (false, eval e X.env) :: starEach es X.env := by rfl) (hpl : (backTo pos (starEach es X.env)).any (·.1) = false := by rfl) : EM X W (.Call (.Name x p) (e :: es) [] pos) (eArgs g fs) := by
  obtain ⟨r, hr, hG⟩ := hc
  exact ⟨PE.imp (pe_callTy hr hg hm hv ha.pa hn hdb he hpl) (LE.call hG)⟩
/-- the only argument -/
@[simp] def arg1 : List SV → Option SV
  | [x] => some x
  | _ => none
@[simp] def arg2 : List SV → Option (SV × SV)
  | [x, y] => some (x, y)
  | _ => none
theorem arg1_rel {K : PySem.W.Frag} {H : Hp} {mu : List Addr} {vs : List V} {ss : List SV} {s : SV} (h : arg1 ss = some s) (r : All2 (RelSV K H mu) vs ss) : ∃ v, vs = [v] ∧ RelSV K H mu v s := by
  unfold arg1 at h
  split at h
  · cases h
    cases r with
    | cons r t => cases t; exact ⟨_, rfl, r⟩
  · cases h
theorem arg2_rel {K : PySem.W.Frag} {H : Hp} {mu : List Addr} {vs : List V} {ss : List SV} {s : SV × SV} (h : arg2 ss = some s) (r : All2 (RelSV K H mu) vs ss) : ∃ v u, vs = [v, u] ∧ RelSV K H mu v s.1 ∧ RelSV K H mu u s.2 := by
  unfold arg2 at h
  split at h
  · cases h
    cases r with
    | cons r t =>
      cases t with
      | cons r' t => cases t; exact ⟨_, _, rfl, r, r'⟩
  · cases h
/-- len -/
@[simp] def lenS : SV → Option Nat
  | .val (.str x) => if x.length ≤ sizeLine then some x.length else none
  | .val (.list ds) => some ds.length
  | .val (.tuple ds) => some ds.length
  | .own ds => some ds.length
  | .scr ns => some ns.length
  | _ => none
theorem lenS_rel {K : PySem.W.Frag} {H : Hp} {mu : List Addr} {v : V} {s : SV} {n : Nat} (h : lenS s = some n) (r : RelSV K H mu v s) : LenV K v H n := by
  cases s with
  | val d =>
    cases d with
    | str x =>
      cases r
      by_cases z : x.length ≤ sizeLine
      · simp only [lenS, if_pos z, Option.some.injEq] at h
        exact ⟨z, h.symm⟩
      · simp only [lenS, if_neg z] at h
        cases h
    | list ds =>
      cases h
      cases r with
      | lst f q => exact .inl ⟨_, f.sq, q.length.symm⟩
    | tuple ds =>
      cases h
      cases r with
      | tup f q => exact .inr ⟨_, f, q.length.symm⟩
    | _ => cases h
  | own ds =>
    cases h
    obtain ⟨a, xs, rfl, e, _, q⟩ := r
    exact .inl ⟨_, rd_sq (.inl e), q.length.symm⟩
  | scr ns =>
    cases h
    obtain ⟨a, rfl, q⟩ := r
    exact .inl ⟨_, q.sq, by simp⟩
  | _ => cases h
def gLen (xs : List SV) (h : LH) : Out SV := orBad (arg1 xs) fun x => orBad (lenS x) fun n => .ok (.val (.int n)) h
theorem cd_len : CallD X (.builtin "len") gLen := ⟨_, call_len, fun W mu h H vs ss Q rh rr q => by
  obtain ⟨x, e, q⟩ := q.orBad
  obtain ⟨n, en, q⟩ := q.orBad
  obtain ⟨v, rfl, r⟩ := arg1_rel e rr
  exact ⟨v, n, rfl, lenS_rel en r, q.here rh (.int _)⟩⟩
/-- int(..) -/
def gInt (xs : List SV) (h : LH) : Out SV := orBad (arg1 xs) fun x =>
  orNext (asInt x) (fun i => .ok (.val (.int i)) h) <|
  orNext (asBool x) (fun b => .ok (.val (.int (if b then 1 else 0))) h) <|
  orBad (asStr x) fun a => orBad (PySem.intText? a) fun n => iff (a.length ≤ 640) (.ok (.val (.int n)) h)
theorem cd_int : CallD X (.type "int") gInt := ⟨_, CallR.or call_int1 call_int_str, fun W mu h H vs ss Q rh rr q => by
  obtain ⟨x, e, q⟩ := q.orBad
  obtain ⟨v, rfl, r⟩ := arg1_rel e rr
  rcases q.orNext with ⟨i, ei, q⟩ | q
  · exact .inl (.inl ⟨i, by rw [asInt_rel ei r], q.here rh (.int _)⟩)
  rcases q.orNext with ⟨b, ei, q⟩ | q
  · exact .inl (.inr ⟨b, by rw [asBool_rel ei r], q.here rh (.int _)⟩)
  · obtain ⟨a, ea, q⟩ := q.orBad
    obtain ⟨n, en, q⟩ := q.orBad
    obtain ⟨hz, q⟩ := q.iff
    exact .inr ⟨a, n, by rw [asStr_rel ea r], en, hz, q.here rh (.int _)⟩⟩
def gAbs (xs : List SV) (h : LH) : Out SV := orBad (arg1 xs) fun x => orBad (asInt x) fun i => .ok (.val (.int (if i < 0 then -i else i))) h
theorem cd_abs : CallD X (.builtin "abs") gAbs := ⟨_, call_abs, fun W mu h H vs ss Q rh rr q => by
  obtain ⟨x, e, q⟩ := q.orBad
  obtain ⟨i, ei, q⟩ := q.orBad
  obtain ⟨v, rfl, r⟩ := arg1_rel e rr
  exact ⟨i, by rw [asInt_rel ei r], q.here rh (.int _)⟩⟩
def gMax (xs : List SV) (h : LH) : Out SV := orBad (arg2 xs) fun p => orBad (both (asInt p.1) (asInt p.2)) fun p => .ok (.val (.int (if p.2 > p.1 then p.2 else p.1))) h
theorem cd_max (hc : X.calm = true) : CallD X (.builtin "max") gMax := ⟨_, call_max2 hc, fun W mu h H vs ss Q rh rr q => by
  obtain ⟨x, e, q⟩ := q.orBad
  obtain ⟨i, ei, q⟩ := q.orBad
  obtain ⟨v, u, rfl, r, r'⟩ := arg2_rel e rr
  obtain ⟨e1, e2⟩ := both_of ei
  exact ⟨i.1, i.2, by rw [asInt_rel e1 r, asInt_rel e2 r'], q.here rh (.int _)⟩⟩
def gMin (xs : List SV) (h : LH) : Out SV := orBad (arg2 xs) fun p => orBad (both (asInt p.1) (asInt p.2)) fun p => .ok (.val (.int (if p.2 < p.1 then p.2 else p.1))) h
theorem cd_min (hc : X.calm = true) : CallD X (.builtin "min") gMin := ⟨_, call_min2 hc, fun W mu h H vs ss Q rh rr q => by
  obtain ⟨x, e, q⟩ := q.orBad
  obtain ⟨i, ei, q⟩ := q.orBad
  obtain ⟨v, u, rfl, r, r'⟩ := arg2_rel e rr
  obtain ⟨e1, e2⟩ := both_of ei
  exact ⟨i.1, i.2, by rw [asInt_rel e1 r, asInt_rel e2 r'], q.here rh (.int _)⟩⟩
def gStr (xs : List SV) (h : LH) : Out SV := orBad (arg1 xs) fun x => orBad (asInt x) fun i => iff (i.natAbs < 2 ^ 64) (.ok (.val (.str (toString i))) h)
theorem cd_str : CallD X (.type "str") gStr := ⟨_, call_str_int, fun W mu h H vs ss Q rh rr q => by
  obtain ⟨x, e, q⟩ := q.orBad
  obtain ⟨i, ei, q⟩ := q.orBad
  obtain ⟨hz, q⟩ := q.iff
  obtain ⟨v, rfl, r⟩ := arg1_rel e rr
  refine ⟨i, by rw [asInt_rel ei r], ?_, q.here rh (.str _)⟩
  by_cases z : i.natAbs = 0
  · rw [z]; decide
  · have := (Nat.log2_lt z).mpr hz
    omega⟩
/-- tuple(..), list(..) -/
def gTuple (xs : List SV) (h : LH) : Out SV := orBad (arg1 xs) fun x => orBad (asSeq x) fun ds => .ok (.val (.tuple ds)) h
theorem cd_tuple : CallD X (.type "tuple") gTuple := ⟨_, call_tuple_of, fun W mu h H vs ss Q rh rr q => by
  obtain ⟨x, e, q⟩ := q.orBad
  obtain ⟨ds, ei, q⟩ := q.orBad
  obtain ⟨v, rfl, r⟩ := arg1_rel e rr
  obtain ⟨a, ys, rfl, hs, rl⟩ := asSeq_rel ei r
  refine ⟨a, ys, rfl, ?_⟩
  rcases hs with hs | hs
  · exact .inl ⟨hs, after_tup rh rl q⟩
  · exact .inr ⟨hs, q.here rh (.tup hs rl)⟩⟩
theorem callR_fz {f : Value} {r : List V → Hp → VK → Prop} (h : CallR X f r) : CallR X f (fun xs H Q => r xs H (Fz Q)) := fun pins s st H xs us Q I rr q => thn (h pins s st H xs us _ I rr q) fun _ _ z => ep_fz z
def gList (xs : List SV) (h : LH) : Out SV := orBad (arg1 xs) fun x => orBad (asSeq x) fun ds => .ok (.val (.list ds)) h
theorem cd_list : CallD X (.type "list") gList := ⟨_, callR_fz call_list_of, fun W mu h H vs ss Q rh rr q => by
  obtain ⟨x, e, q⟩ := q.orBad
  obtain ⟨ds, ei, q⟩ := q.orBad
  obtain ⟨v, rfl, r⟩ := arg1_rel e rr
  obtain ⟨a, ys, rfl, hs, rl⟩ := asSeq_rel ei r
  exact ⟨a, ys, rfl, hs, after_lst rh rl q⟩⟩
/-- all, any -/
@[simp] def asBools : List D → Option (List Bool)
  | [] => some []
  | .bool b :: r => match asBools r with
    | some bs => some (b :: bs)
    | none => none
  | _ => none
theorem asBools_of : ∀ {ds : List D} {bs : List Bool}, asBools ds = some bs → ds = bs.map PyData.bool
  | [], _, h => by cases h; rfl
  | d :: r, bs, h => by
    cases d with
    | bool b =>
      cases e : asBools r with
      | none => simp only [asBools, e] at h; cases h
      | some bs' =>
        simp only [asBools, e, Option.some.injEq] at h
        subst h
        rw [asBools_of e]; rfl
    | _ => cases h
def gAll (xs : List SV) (h : LH) : Out SV := orBad (arg1 xs) fun x => orBad (asLst x) fun ds => orBad (asBools ds) fun bs => .ok (.val (.bool (bs.all id))) h
def gAny (xs : List SV) (h : LH) : Out SV := orBad (arg1 xs) fun x => orBad (asLst x) fun ds => orBad (asBools ds) fun bs => .ok (.val (.bool (bs.any id))) h
theorem bools_rel {K : PySem.W.Frag} {H : Hp} {mu : List Addr} {v : V} {s : SV} {ds : List D} {bs : List Bool} (e : asLst s = some ds) (eb : asBools ds = some bs) (r : RelSV K H mu v s) : ∃ a, v = .ref a ∧ SqL K H a (bs.map V.bl) := by
  obtain ⟨a, xs, rfl, h, q⟩ := asLst_rel e r
  rw [asBools_of eb] at q
  rw [RpAll.bls_inv q] at h
  exact ⟨a, rfl, rd_sq h⟩
theorem cd_all (hc : X.calm = true) : CallD X (.builtin "all") gAll := ⟨_, cr_all hc, fun W mu h H vs ss Q rh rr q => by
  obtain ⟨x, e, q⟩ := q.orBad
  obtain ⟨ds, ed, q⟩ := q.orBad
  obtain ⟨bs, eb, q⟩ := q.orBad
  obtain ⟨v, rfl, r⟩ := arg1_rel e rr
  obtain ⟨a, rfl, hs⟩ := bools_rel ed eb r
  exact ⟨a, bs, rfl, hs, q.here rh (.bl _)⟩⟩
theorem cd_any (hc : X.calm = true) : CallD X (.builtin "any") gAny := ⟨_, cr_any hc, fun W mu h H vs ss Q rh rr q => by
  obtain ⟨x, e, q⟩ := q.orBad
  obtain ⟨ds, ed, q⟩ := q.orBad
  obtain ⟨bs, eb, q⟩ := q.orBad
  obtain ⟨v, rfl, r⟩ := arg1_rel e rr
  obtain ⟨a, rfl, hs⟩ := bools_rel ed eb r
  exact ⟨a, bs, rfl, hs, q.here rh (.bl _)⟩⟩
end
end U
/-! U4: isinstance, methods, comprehensions, calls of defs. -/
namespace U
open PySem PySem.Spec PyProof.Rows L2
section
variable {X : Cx} {W : WX} {a b c e : Expr} {fa fb fc f : DS → LH → Out SV} {pos p : Pos} {x : Str} {es : List Expr} {fs : DS → LH → Out (List SV)}

/-! ### isinstance -/
def tyD : D → String
  | .none => "NoneType" | .bool _ => "bool" | .int _ => "int" | .str _ => "str" | .list _ => "list" | .tuple _ => "tuple" | .dict _ => "dict"
@[simp] def isTy (T : String) : D → Bool
  | .none => false | .bool _ => T == "bool" || T == "int" | .int _ => T == "int" | .str _ => T == "str" | .list _ => T == "list" | .tuple _ => T == "tuple" | .dict _ => T == "dict"
def tysOk : List String := ["str", "int", "bool", "tuple", "list"]
theorem kit_none : ∀ T ∈ tysOk, kitB "NoneType" T = some (isTy T .none) := by decide +kernel
theorem kit_bool : ∀ T ∈ tysOk, kitB "bool" T = some (isTy T (.bool true)) := by decide +kernel
theorem kit_int : ∀ T ∈ tysOk, kitB "int" T = some (isTy T (.int 0)) := by decide +kernel
theorem kit_str : ∀ T ∈ tysOk, kitB "str" T = some (isTy T (.str ⟨#[]⟩)) := by decide +kernel
theorem kit_list : ∀ T ∈ tysOk, kitB "list" T = some (isTy T (.list [])) := by decide +kernel
theorem kit_tuple : ∀ T ∈ tysOk, kitB "tuple" T = some (isTy T (.tuple [])) := by decide +kernel
@[simp] def isiS (T : String) : SV → Option Bool
  | .val (.dict _) => none
  | .val d => some (isTy T d)
  | .own _ => some (T == "list")
  | .scr _ => some (T == "list")
  | _ => none
theorem sqt_ty {K : PySem.W.Frag} {H : Hp} {a : Addr} {xs : List V} (h : SqT K H a xs) : TyX K H (.ref a) (.type "tuple") := by
  rcases h with (h | ⟨o, h⟩) | ⟨o, its, n, h, c, _⟩
  · exact .base (.tup h)
  · exact .fTuple h
  · exact .kTuple h c
theorem isiS_rel {K : PySem.W.Frag} {H : Hp} {mu : List Addr} {v : V} {s : SV} {T : String} {r : Bool} (hT : T ∈ tysOk) (h : isiS T s = some r) (rl : RelSV K H mu v s) : ∃ t, TyX K H v t ∧ PySem.W.kitOne K t (.type T) = some r := by
  cases s with
  | val d =>
    cases d with
    | none => cases h; cases rl; exact ⟨_, .base .non, kit_ty (kit_none T hT)⟩
    | bool b => cases h; cases rl; exact ⟨_, .base (.bl b), kit_ty (kit_bool T hT)⟩
    | int b => cases h; cases rl; exact ⟨_, .base (.int b), kit_ty (kit_int T hT)⟩
    | str b => cases h; cases rl; exact ⟨_, .base (.str b), kit_ty (kit_str T hT)⟩
    | list b =>
      cases h
      cases rl with
      | lst f q => obtain ⟨o, f⟩ := f; exact ⟨_, .base (.frz f), kit_ty (kit_list T hT)⟩
    | tuple b =>
      cases h
      cases rl with
      | tup f q => exact ⟨_, sqt_ty f, kit_ty (kit_tuple T hT)⟩
    | dict b => cases h
  | own ds => cases h; obtain ⟨a, xs, rfl, e, _, _⟩ := rl; exact ⟨_, .base (.lst e), kit_ty (kit_list T hT)⟩
  | scr ds =>
    cases h
    obtain ⟨a, rfl, q⟩ := rl
    rcases q with ⟨o, q⟩ | ⟨o, its, n, q, c, _⟩
    · exact ⟨_, .base (.frz q), kit_ty (kit_list T hT)⟩
    · exact ⟨_, .kList q c, kit_ty (kit_list T hT)⟩
  | _ => cases h
def eIsi (T : String) (fa : DS → LH → Out SV) : DS → LH → Out SV := fun ds h => (fa ds h).bind fun x h1 => orBad (isiS T x) fun b => .ok (.val (.bool b)) h1
theorem em_isi {T : String} {x : Str} {p2 : Pos} (ha : EM X W a fa) (hT : T ∈ tysOk) (hg : Gl X "isinstance") (hm : X.mg "isinstance" = none) (hg2 : Gl X x) (hm2 : X.mg x = none) (hv2 : bootBuiltins x = some (.type T)) (hn : x ≠ "__name__" := by decide) (hd : (x == ("__debug__" : Str)) = false := by decide)
    (hst : starEach [a, .Name x p2] X.env = (false, eval a X.env) :: starEach [.Name x p2] X.env := by rfl)
    (hpl : (backTo pos (starEach [.Name x p2] X.env)).any (·.1) = false := by rfl) : EM X W (.Call (.Name "isinstance" p) [a, .Name x p2] [] pos) (eIsi T fa) := by
  refine ⟨PE.imp (pe_callB call_isi hg hm boot_isinstance (pa_cons ha.pe (pa_cons (pe_bltn (v := .ty T) hg2 hm2 hv2 rfl hn hd) pa_nil) hst) (by decide) (by decide) hst hpl) fun st H Q ⟨ds, mu, h, rs, rh, q⟩ => ?_⟩
  refine ⟨ds, mu, h, rs, rh, After.step q fun s h1 v H1 mu1 _ e1 rh1 r1 q1 => ?_⟩
  obtain ⟨b, e, q2⟩ := q1.orBad
  obtain ⟨t, ty, k⟩ := isiS_rel hT e r1
  exact ⟨v, .ty T, t, .type T, b, rfl, .ty T, ty, k, q2.here rh1 (.bl _)⟩

/-! ### methods of texts -/
variable {o : Expr} {fo : DS → LH → Out SV} {apos : Pos}
def eS0 (g : Str → LH → Out SV) (fo : DS → LH → Out SV) : DS → LH → Out SV := fun ds h => (fo ds h).bind fun x h1 => orBad (asStr x) fun a => g a h1
def eS1 (g : Str → SV → LH → Out SV) (fo fe : DS → LH → Out SV) : DS → LH → Out SV := fun ds h => (fo ds h).bind fun x h1 => orBad (asStr x) fun a => (fe ds h1).bind fun y h2 => g a y h2
theorem LE.s1 {g : Str → SV → LH → Out SV} {r : V → List V → Hp → VK → Prop} (hr : ∀ (W : WH) (mu : List Addr) (h : LH) (H : Hp) (a : Str) (u : V) (y : SV) (Q : VK), RelH X.K H mu h → RelSV X.K H mu u y → After X.K X.mg W (rSV X.K) mu H (g a y h) Q → r (.str a) [u] H Q) :
    ∀ st H Q, LE X W (eS1 g fo fb) st H Q → tM1 r (LE X W fo) (LE X W fb) st H Q := fun st H Q ⟨ds, mu, h, rs, rh, q⟩ =>
  ⟨ds, mu, h, rs, rh, After.step q fun x h1 v H1 mu1 _ e1 rh1 r1 q1 => by
    obtain ⟨z, e, q2⟩ := q1.orBad
    have ev := asStr_rel e r1
    subst ev
    exact ⟨⟨z, rfl⟩, ds, mu1, h1, rs.ext e1, rh1, After.step q2 fun y h2 u H2 mu2 _ e2 rh2 r2 q3 => hr _ mu2 h2 H2 z u y Q rh2 r2 q3⟩⟩
def gSplit (a : Str) (y : SV) (h : LH) : Out SV := orBad (asStr y) fun b => iff ((b.length == 0) = false ∧ a.length + 2 ≤ sizeLine) (.ok (.val (.list ((Txt.split a b).map PyData.str))) h)
theorem em_split (ho : EM X W o fo) (he : EM X W e fb) (hs : starEach [e] X.env = [(false, eval e X.env)] := by rfl) (hbase : attributeBase o "split" X.env (eval o X.env) = eval o X.env := by rfl) (hline : (apos.endLine == pos.line) = true := by rfl) :
    EM X W (.Call (.Attribute o "split" apos) [e] [] pos) (eS1 gSplit fo fb) := ⟨PE.imp (pe_fz (pe_split ho.pe he.pe hs hbase hline)) fun st H Q q =>
  LE.s1 (r := fun x xs H Q' => ∃ a b, x = .str a ∧ xs = [.str b] ∧ (b.length == 0) = false ∧ a.length + 2 ≤ sizeLine ∧ rNewStrs (Txt.split a b) H (Fz Q')) (fun W mu h H a u y Q rh r q => by
    obtain ⟨b, e, q⟩ := q.orBad
    obtain ⟨⟨z1, z2⟩, q⟩ := q.iff
    have eu := asStr_rel e r
    subst eu
    exact ⟨a, b, rfl, rfl, z1, z2, after_lst rh (RpAll.strs _) q⟩) st H Q q⟩
def gStarts (a : Str) (y : SV) (h : LH) : Out SV := orBad (asStr y) fun b => .ok (.val (.bool (Txt.startswith a b))) h
theorem em_starts (ho : EM X W o fo) (he : EM X W e fb) (hs : starEach [e] X.env = [(false, eval e X.env)] := by rfl) (hbase : attributeBase o "startswith" X.env (eval o X.env) = eval o X.env := by rfl) (hline : (apos.endLine == pos.line) = true := by rfl) :
    EM X W (.Call (.Attribute o "startswith" apos) [e] [] pos) (eS1 gStarts fo fb) := ⟨PE.imp (pe_m1 F.slot_str_startswith F.type_str_startswith mt_startswith ho.pe he.pe hs hbase hline) fun st H Q q =>
  LE.s1 (fun W mu h H a u y Q rh r q => by
    obtain ⟨b, e, q⟩ := q.orBad
    have eu := asStr_rel e r
    subst eu
    exact ⟨a, b, rfl, rfl, q.here rh (.bl _)⟩) st H Q q⟩
@[simp] def asStrs : List D → Option (List Str)
  | [] => some []
  | .str b :: r => match asStrs r with
    | some bs => some (b :: bs)
    | none => none
  | _ => none
theorem asStrs_of : ∀ {ds : List D} {bs : List Str}, asStrs ds = some bs → ds = bs.map PyData.str
  | [], _, h => by cases h; rfl
  | d :: r, bs, h => by
    cases d with
    | str b =>
      cases e : asStrs r with
      | none => simp only [asStrs, e] at h; cases h
      | some bs' =>
        simp only [asStrs, e, Option.some.injEq] at h
        subst h
        rw [asStrs_of e]; rfl
    | _ => cases h
@[simp] theorem asStrs_map : ∀ bs : List Str, asStrs (bs.map PyData.str) = some bs
  | [] => rfl
  | b :: r => by simp [asStrs_map r]
@[simp] theorem asBools_map : ∀ bs : List Bool, asBools (bs.map PyData.bool) = some bs
  | [] => rfl
  | b :: r => by simp [asBools_map r]
def gJoin (a : Str) (y : SV) (h : LH) : Out SV := orBad (asSeq y) fun ds => orBad (asStrs ds) fun ys => iff ((ys.map (·.length)).sum + ys.length * a.length ≤ 16777216) (.ok (.val (.str (Txt.join a ys))) h)
theorem em_join (ho : EM X W o fo) (he : EM X W e fb) (hs : starEach [e] X.env = [(false, eval e X.env)] := by rfl) (hbase : attributeBase o "join" X.env (eval o X.env) = eval o X.env := by rfl) (hline : (apos.endLine == pos.line) = true := by rfl) :
    EM X W (.Call (.Attribute o "join" apos) [e] [] pos) (eS1 gJoin fo fb) := ⟨PE.imp (pe_m1 F.slot_str_join F.type_str_join mt_join ho.pe he.pe hs hbase hline) fun st H Q q =>
  LE.s1 (fun W mu h H a u y Q rh r q => by
    obtain ⟨ds, e, q⟩ := q.orBad
    obtain ⟨ys, ey, q⟩ := q.orBad
    obtain ⟨hz, q⟩ := q.iff
    obtain ⟨p, xs, rfl, hs, rr⟩ := asSeq_rel e r
    rw [asStrs_of ey] at rr
    rw [RpAll.strs_inv rr] at hs
    exact ⟨a, p, ys, rfl, rfl, hs, hz, q.here rh (.str _)⟩) st H Q q⟩

/-! ### what is walked -/
/-- the items of a walk -/
def Serves (K : PySem.W.Frag) (J : It) (H0 : Hp) (items : List D) : Prop := ∀ i H, Mono H0 H →
  (∀ d, items[i]? = some d → J.go i H ∧ ∀ v H', J.yld i H v H' → Ext [] H [] H' ∧ Rp K H' v d) ∧ (items.length ≤ i → J.stop i H)
structure IM (X : Cx) (W : WX) (tg e : Expr) (f : DS → LH → Out (List D)) : Prop where
  pi : PI X tg e fun st H R => ∃ ds mu h, RelS X.K X.mg X.pn H mu st ds ∧ RelH X.K H mu h ∧ After X.K X.mg (fun c dd H' => W c dd st H') (fun H' mu' J items => Serves X.K J H' items) mu H (f ds h) R
theorem PI.or {tg e : Expr} {t t' : TI} (h : PI X tg e t) (h' : PI X tg e t') : PI X tg e (fun st H R => t st H R ∨ t' st H R) := ⟨fun pins s st H R I q => q.elim (h.run pins s st H R I) (h'.run pins s st H R I)⟩
theorem serves_list {K : PySem.W.Frag} {H0 : Hp} {a : Addr} {xs : List V} {ds : List D} (hs : ∀ H, Mono H0 H → SqL K H a xs) (r : RpAll K H0 xs ds) : Serves K (Itl K a) H0 ds := fun i H m =>
  ⟨fun d e => by
    obtain ⟨v, ev, rv⟩ := r.get e
    exact ⟨⟨xs, v, hs H m, ev⟩, fun w H' ⟨eH, hw⟩ => by
      subst eH
      have := hw xs (hs _ m)
      rw [ev] at this
      cases this
      exact ⟨.refl _ _, rv.mono m⟩⟩, fun hl => ⟨xs, hs H m, by rw [r.length]; exact hl⟩⟩
theorem serves_tup {K : PySem.W.Frag} {H0 : Hp} {a : Addr} {xs : List V} {ds : List D} (hs : ∀ H, Mono H0 H → SqT K H a xs) (r : RpAll K H0 xs ds) : Serves K (Itt K a) H0 ds := fun i H m =>
  ⟨fun d e => by
    obtain ⟨v, ev, rv⟩ := r.get e
    exact ⟨⟨xs, v, hs H m, ev⟩, fun w H' ⟨eH, hw⟩ => by
      subst eH
      have := hw xs (hs _ m)
      rw [ev] at this
      cases this
      exact ⟨.refl _ _, rv.mono m⟩⟩, fun hl => ⟨xs, hs H m, by rw [r.length]; exact hl⟩⟩
/-- the items of a list or a tuple that stays -/
@[simp] def asFix : SV → Option (List D)
  | .val (.list l) => some l
  | .val (.tuple l) => some l
  | _ => none
theorem asFix_rel {K : PySem.W.Frag} {H : Hp} {mu : List Addr} {v : V} {s : SV} {l : List D} (h : asFix s = some l) (r : RelSV K H mu v s) : ∃ a xs, v = .ref a ∧ RpAll K H xs l ∧ (FzL H a xs ∨ SqT K H a xs) := by
  cases s with
  | val d =>
    cases d with
    | list b =>
      cases h
      cases r with
      | lst f q => exact ⟨_, _, rfl, q, .inl f⟩
    | tuple b =>
      cases h
      cases r with
      | tup f q => exact ⟨_, _, rfl, q, .inr f⟩
    | _ => cases h
  | _ => cases h
def iSeq (f : DS → LH → Out SV) : DS → LH → Out (List D) := fun ds h => (f ds h).bind fun x h1 => orBad (asFix x) fun l => .ok l h1
theorem im_seq {tg : Expr} (ha : EM X W a fa) : IM X W tg a (iSeq fa) := ⟨PI.imp (PI.or (pi_list ha.pe) (pi_tup ha.pe)) fun st H R ⟨ds, mu, h, rs, rh, q⟩ => by
  have key : After X.K X.mg (fun c dd H' => W c dd st H') (rSV X.K) mu H (fa ds h) (fun v H1 => ∃ a xs, v = .ref a ∧ ((FzL H1 a xs ∧ R (Itl X.K a) H1) ∨ (SqT X.K H1 a xs ∧ R (Itt X.K a) H1))) :=
    After.step q fun x h1 v H1 mu1 _ e1 rh1 r1 q1 => by
      obtain ⟨l, e, q2⟩ := q1.orBad
      obtain ⟨a, xs, rfl, rr, hs⟩ := asFix_rel e r1
      refine ⟨a, xs, rfl, ?_⟩
      rcases hs with hs | hs
      · exact .inl ⟨hs, q2.here rh1 (serves_list (fun H m => (m.fzl hs).sq) rr)⟩
      · exact .inr ⟨hs, q2.here rh1 (serves_tup (fun H m => m.sqt hs) rr)⟩
  -- which of the two
  cases e : fa ds h with
  | bad => rw [e] at key; exact key.elim
  | exc x h' => exact .inl ⟨ds, mu, h, rs, rh, by rw [e] at key ⊢; exact key⟩
  | ok x h1 =>
    unfold iSeq at q
    rw [e] at q
    have q : After X.K X.mg (fun c dd H' => W c dd st H') _ mu H (orBad (asFix x) fun l => .ok l h1) R := q
    obtain ⟨l, ex, q2⟩ := q.orBad
    have two : (∃ l, x = .val (.list l)) ∨ ∃ l, x = .val (.tuple l) := by
      cases x with
      | val d => cases d <;> first | exact .inl ⟨_, rfl⟩ | exact .inr ⟨_, rfl⟩ | cases ex
      | _ => cases ex
    rcases two with ⟨l', rfl⟩ | ⟨l', rfl⟩
    · refine .inl ⟨ds, mu, h, rs, rh, ?_⟩
      rw [e]
      intro v H1 mu1 e1 rh1 r1
      cases r1 with
      | lst f rr =>
        cases ex
        exact ⟨_, rfl, ⟨_, f.sq⟩, q2 _ H1 mu1 e1 rh1 (serves_list (fun H m => (m.fzl f).sq) rr)⟩
    · refine .inr ⟨ds, mu, h, rs, rh, ?_⟩
      rw [e]
      intro v H1 mu1 e1 rh1 r1
      cases r1 with
      | tup f rr =>
        cases ex
        exact ⟨_, rfl, ⟨_, f⟩, q2 _ H1 mu1 e1 rh1 (serves_tup (fun H m => m.sqt f) rr)⟩⟩
/-- sign by sign -/
def signs (x : Str) : List D := x.cps.toList.map fun c => PyData.str ⟨#[c]⟩
def iStr' (f : DS → LH → Out SV) : DS → LH → Out (List D) := fun ds h => (f ds h).bind fun x h1 => orBad (asStr x) fun l => .ok (signs l) h1
theorem serves_str {K : PySem.W.Frag} {H0 : Hp} (x : Str) : Serves K (Its x) H0 (signs x) := fun i H m =>
  ⟨fun d e => by
    unfold signs at e
    rw [List.getElem?_map, Option.map_eq_some_iff] at e
    obtain ⟨c, ec, rfl⟩ := e
    rw [Array.getElem?_toList] at ec
    refine ⟨(Array.getElem?_eq_some_iff.mp ec).1, fun w H' ⟨eH, c', ec', hw⟩ => ?_⟩
    subst eH hw
    rw [ec] at ec'
    cases ec'
    exact ⟨.refl _ _, .str _⟩, fun hl => by
    have : (signs x).length = x.cps.size := by unfold signs; rw [List.length_map, Array.length_toList]
    show x.cps.size ≤ i
    omega⟩
theorem im_str {tg : Expr} (ha : EM X W a fa) : IM X W tg a (iStr' fa) := ⟨PI.imp (pi_str ha.pe) fun st H R ⟨ds, mu, h, rs, rh, q⟩ => ⟨ds, mu, h, rs, rh, After.step q fun x h1 v H1 mu1 _ e1 rh1 r1 q1 => by
  obtain ⟨l, e, q2⟩ := q1.orBad
  exact ⟨l, asStr_rel e r1, q2.here rh1 (serves_str l)⟩⟩⟩
/-- range -/
def rangeD (lo : Int) (n : Nat) : List D := (List.range n).map fun i => PyData.int (lo + (i : Nat))
theorem serves_range {K : PySem.W.Frag} {H0 : Hp} (lo : Int) (n : Nat) : Serves K (Itr lo n) H0 (rangeD lo n) := fun i H m =>
  ⟨fun d e => by
    unfold rangeD at e
    rw [List.getElem?_map, Option.map_eq_some_iff] at e
    obtain ⟨c, ec, rfl⟩ := e
    obtain ⟨h1, h2⟩ := List.getElem?_eq_some_iff.mp ec
    rw [List.getElem_range] at h2
    subst h2
    rw [List.length_range] at h1
    refine ⟨h1, fun w H' ⟨eH, hw⟩ => ?_⟩
    subst eH hw
    exact ⟨.refl _ _, .int _⟩, fun hl => by
    have : (rangeD lo n).length = n := by unfold rangeD; rw [List.length_map, List.length_range]
    show n ≤ i
    omega⟩
def okR (i : Int) : Prop := -(2 ^ 62) ≤ i ∧ i < 2 ^ 62
instance (i : Int) : Decidable (okR i) := by unfold okR; infer_instance
def iRange1 (fs : DS → LH → Out (List SV)) : DS → LH → Out (List D) := fun ds h => (fs ds h).bind fun xs h1 => orBad (arg1 xs) fun x => orBad (asInt x) fun j => iff (okR j) (.ok (rangeD 0 j.toNat) h1)
def iRange2 (fs : DS → LH → Out (List SV)) : DS → LH → Out (List D) := fun ds h => (fs ds h).bind fun xs h1 => orBad (arg2 xs) fun p => orBad (both (asInt p.1) (asInt p.2)) fun p => iff (okR p.1 ∧ okR p.2) (.ok (rangeD p.1 (p.2 - p.1).toNat) h1)
theorem im_range1 {tg : Expr} (hg : Gl X "range") (hm : X.mg "range" = none) (ha : AM X W [a] fs) (hs : starEach [a] X.env = [(false, eval a X.env)] := by rfl) : IM X W tg (.Call (.Name "range" p) [a] [] pos) (iRange1 fs) := ⟨PI.imp (pi_range1 hg hm ha.pa hs) fun st H R ⟨ds, mu, h, rs, rh, q⟩ => ⟨ds, mu, h, rs, rh, After.step q fun x h1 v H1 mu1 _ e1 rh1 r1 q1 => by
  obtain ⟨y, ey, q2⟩ := q1.orBad
  obtain ⟨j, ej, q2⟩ := q2.orBad
  obtain ⟨⟨z1, z2⟩, q2⟩ := q2.iff
  obtain ⟨u, rfl, r⟩ := arg1_rel ey r1
  exact ⟨j, by rw [asInt_rel ej r], z1, z2, q2.here rh1 (serves_range 0 _)⟩⟩⟩
theorem im_range2 {tg : Expr} (hg : Gl X "range") (hm : X.mg "range" = none) (ha : AM X W [a, b] fs) (hs : starEach [a, b] X.env = [(false, eval a X.env), (false, eval b X.env)] := by rfl) (hs2 : starEach [b] X.env = [(false, eval b X.env)] := by rfl) : IM X W tg (.Call (.Name "range" p) [a, b] [] pos) (iRange2 fs) := ⟨PI.imp (pi_range2 hg hm ha.pa hs hs2) fun st H R ⟨ds, mu, h, rs, rh, q⟩ => ⟨ds, mu, h, rs, rh, After.step q fun x h1 v H1 mu1 _ e1 rh1 r1 q1 => by
  obtain ⟨y, ey, q2⟩ := q1.orBad
  obtain ⟨j, ej, q2⟩ := q2.orBad
  obtain ⟨⟨z1, z2⟩, q2⟩ := q2.iff
  obtain ⟨v, u, rfl, r, r'⟩ := arg2_rel ey r1
  obtain ⟨e1, e2⟩ := both_of ej
  exact ⟨_, _, by rw [asInt_rel e1 r, asInt_rel e2 r'], ⟨z1.1, z1.2, z2.1, z2.2⟩, q2.here rh1 (serves_range _ _)⟩⟩⟩

/-! ### targets of loops -/
structure TgOk (is : List Nat) (st : L2.St) (ds : DS) (st' : L2.St) (ds' : DS) : Prop where
  len : st'.length = st.length
  out : ∀ j, j ∉ is → st'[j]? = st[j]? ∧ ds'[j]? = ds[j]?
  inn : ∀ j, j ∈ is → ∀ l, ds'[j]? ≠ some (some (SV.own l))
theorem TgOk.refl (st : L2.St) (ds : DS) : TgOk [] st ds st ds := ⟨rfl, fun _ _ => ⟨rfl, rfl⟩, fun j h => by simp at h⟩
structure GM (X : Cx) (tg : Expr) (is : List Nat) (f : D → DS → Option DS) : Prop where
  pg : PG X tg fun v st H Q => ∃ d ds mu ds', RelS X.K X.mg X.pn H mu st ds ∧ Rp X.K H v d ∧ f d ds = some ds' ∧ ∀ st', RelS X.K X.mg X.pn H mu st' ds' → TgOk is st ds st' ds' → Q st' H
def tgName (i : Nat) : D → DS → Option DS := fun d ds => if i < ds.length then some (ds.set i (some (.val d))) else none
theorem PG.imp {tg : Expr} {t t' : TG} (h : PG X tg t) (i : ∀ v st H Q, t' v st H Q → t v st H Q) : PG X tg t' := ⟨fun pins s st H v u Q I r q => h.run pins s st H v u Q I r (i _ _ _ _ q)⟩
theorem RelS.set {K : PySem.W.Frag} {mg : Str → Option Value} {pn : List (Addr × Obj)} {H : Hp} {mu : List Addr} {st : L2.St} {ds : DS} (r : RelS K mg pn H mu st ds) (i : Nat) {v : V} {s : SV} (rv : RelSV K H mu v s) (n : ∀ x, s ≠ .exc x) : RelS K mg pn H mu (st.set i (some v)) (ds.set i (some s)) where
  len := by rw [List.length_set, List.length_set]; exact r.len
  at_ := fun j s' h hn => by
    by_cases e : i = j
    · subst e
      by_cases hi : i < ds.length
      · rw [List.getElem?_set_self hi] at h
        cases h
        exact ⟨v, List.getElem?_set_self (by rw [r.len]; exact hi), rv⟩
      · rw [List.getElem?_eq_none (by simpa using hi)] at h; cases h
    · rw [List.getElem?_set_ne e] at h
      rw [List.getElem?_set_ne e]
      exact r.at_ j s' h hn
  ex := fun j x h => by
    by_cases e : i = j
    · subst e
      by_cases hi : i < ds.length
      · rw [List.getElem?_set_self hi] at h
        cases h
        exact absurd rfl (n x)
      · rw [List.getElem?_eq_none (by simpa using hi)] at h; cases h
    · rw [List.getElem?_set_ne e] at h
      rw [List.getElem?_set_ne e]
      exact r.ex j x h
theorem gm_name {i : Nat} {x : Str} (hN : X.N.Nodup) (hi : X.N[i]? = some x) (hx : Loc X.env.scope x) (hf : X.fn x = true ∨ X.env.scope.names.lookup x = some .local := by first | exact .inl rfl | exact .inr rfl | assumption) : GM X (.Name x pos) [i] (tgName i) :=
  ⟨PG.imp (pg_name hN hi hx hf) fun v st H Q ⟨d, ds, mu, ds', rs, r, e, q⟩ => by
    unfold tgName at e
    split at e
    · rename_i hl
      cases e
      refine q _ (rs.set i r (fun _ z => by cases z)) ⟨by rw [List.length_set], fun j hj => ?_, fun j hj l => ?_⟩
      · have hj : i ≠ j := fun z => hj (by rw [z]; simp)
        exact ⟨List.getElem?_set_ne hj, List.getElem?_set_ne hj⟩
      · have hj : j = i := by simpa using hj
        subst hj
        rw [List.getElem?_set_self hl]
        intro z; cases z
    · cases e⟩
/-- several targets -/
structure GMs (X : Cx) (tgs : List Expr) (is : List Nat) (f : List D → DS → Option DS) : Prop where
  pgs : PGs X tgs fun vs st H Q => ∃ l ds mu ds', RelS X.K X.mg X.pn H mu st ds ∧ RpAll X.K H vs l ∧ f l ds = some ds' ∧ ∀ st', RelS X.K X.mg X.pn H mu st' ds' → TgOk is st ds st' ds' → Q st' H
def tgsNil : List D → DS → Option DS := fun l ds => match l with
  | [] => some ds
  | _ => none
def tgsCons (f : D → DS → Option DS) (g : List D → DS → Option DS) : List D → DS → Option DS := fun l ds => match l with
  | d :: r => match f d ds with
    | some ds' => g r ds'
    | none => none
  | [] => none
theorem PGs.imp {tg : List Expr} {t t' : TGs} (h : PGs X tg t) (i : ∀ v st H Q, t' v st H Q → t v st H Q) : PGs X tg t' := ⟨fun pins s st H v u Q I r q => h.run pins s st H v u Q I r (i _ _ _ _ q)⟩
theorem gms_nil : GMs X [] [] tgsNil := ⟨PGs.imp pgs_nil fun vs st H Q ⟨l, ds, mu, ds', rs, r, e, q⟩ => by
  cases r with
  | nil => cases e; exact ⟨rfl, q st rs (.refl _ _)⟩
  | cons _ _ => cases e⟩
theorem TgOk.trans {is js : List Nat} {st st1 st2 : L2.St} {ds ds1 ds2 : DS} (a : TgOk is st ds st1 ds1) (b : TgOk js st1 ds1 st2 ds2) : TgOk (is ++ js) st ds st2 ds2 :=
  ⟨b.len.trans a.len, fun j hj => by
    rw [List.mem_append, not_or] at hj
    obtain ⟨x1, x2⟩ := b.out j hj.2
    obtain ⟨y1, y2⟩ := a.out j hj.1
    exact ⟨x1.trans y1, x2.trans y2⟩, fun j hj l => by
    by_cases h : j ∈ js
    · exact b.inn j h l
    · rw [(b.out j h).2]
      rcases List.mem_append.mp hj with z | z
      · exact a.inn j z l
      · exact absurd z h⟩
theorem gms_cons {tg : Expr} {tgs : List Expr} {is js : List Nat} {f : D → DS → Option DS} {g : List D → DS → Option DS} (h1 : GM X tg is f) (h2 : GMs X tgs js g) (hs : (assignEach (tg :: tgs) X.env).map (·.2) = assign tg X.env :: (assignEach tgs X.env).map (·.2) := by rfl) : GMs X (tg :: tgs) (is ++ js) (tgsCons f g) :=
  ⟨PGs.imp (pgs_cons h1.pg h2.pgs hs) fun vs st H Q ⟨l, ds, mu, ds', rs, r, e, q⟩ => by
    cases r with
    | nil => cases e
    | @cons v vs d l r rr =>
      have e : (match f d ds with | some ds' => g l ds' | none => none) = some ds' := e
      cases e1 : f d ds with
      | none => rw [e1] at e; cases e
      | some ds1 =>
        rw [e1] at e
        exact ⟨v, vs, rfl, d, ds, mu, ds1, rs, r, e1, fun st1 rs1 t1 => ⟨l, ds1, mu, ds', rs1, rr, e, fun st2 rs2 t2 => q st2 rs2 (t1.trans t2)⟩⟩⟩
def tgTup (n : Nat) (g : List D → DS → Option DS) : D → DS → Option DS := fun d ds => match d with
  | .tuple l => if l.length = n then g l ds else none
  | _ => none
theorem gm_tup {tgs : List Expr} {is : List Nat} {k n : Nat} {g : List D → DS → Option DS} (hc : X.calm = true) (h : GMs X tgs is g) (hn : (assignEach tgs X.env).length = n := by rfl) (hst : (assignEach tgs X.env).findIdx? (·.1) = none := by rfl) : GM X (.Tuple tgs k pos) is (tgTup n g) :=
  ⟨PG.imp (pg_tup hc h.pgs hn hst) fun v st H Q ⟨d, ds, mu, ds', rs, r, e, q⟩ => by
    cases r with
    | @tup a xs l hs rr =>
      have e : (if l.length = n then g l ds else none) = some ds' := e
      split at e
      · rename_i hl
        exact ⟨a, xs, rfl, hs, by rw [rr.length]; exact hl, l, ds, mu, ds', rs, rr, e, q⟩
      · cases e
    | _ => cases e⟩
end
end U
/-! U5: comprehensions. -/
namespace U
open PySem PySem.Spec PyProof.Rows L2

abbrev NW : WX := fun _ _ _ _ => False
/-- the slots within a block -/
def noExc : Option SV → Option SV
  | some (.exc _) => none
  | s => s
def dwipe (ds : DS) : List Nat → DS
  | [] => ds.map noExc
  | v :: vs => (dwipe ds vs).set v none
theorem dwipe_len (ds : DS) : ∀ vs, (dwipe ds vs).length = ds.length
  | [] => by unfold dwipe; rw [List.length_map]
  | v :: vs => by unfold dwipe; rw [List.length_set, dwipe_len ds vs]
theorem wipe_none {st : L2.St} {i : Nat} : ∀ {vs : List Nat}, i ∉ vs → (wipe st vs)[i]? = st[i]?
  | [], _ => rfl
  | v :: vs, h => by
    rw [List.mem_cons, not_or] at h
    unfold wipe
    rw [List.getElem?_set_ne (fun e => h.1 e.symm), wipe_none h.2]
theorem dwipe_some {ds : DS} {i : Nat} {s : SV} : ∀ {vs : List Nat}, (dwipe ds vs)[i]? = some (some s) → ds[i]? = some (some s) ∧ i ∉ vs ∧ ∀ x, s ≠ .exc x
  | [], h => by
    unfold dwipe at h
    rw [List.getElem?_map, Option.map_eq_some_iff] at h
    obtain ⟨o, e, z⟩ := h
    cases o with
    | none => cases z
    | some q => cases q <;> first | (cases z; exact ⟨e, by simp, fun x w => by cases w⟩) | cases z
  | v :: vs, h => by
    unfold dwipe at h
    by_cases hi : v = i
    · subst hi
      by_cases hv : v < (dwipe ds vs).length
      · rw [List.getElem?_set_self hv] at h; cases h
      · rw [List.getElem?_eq_none (by simpa using hv)] at h; cases h
    · rw [List.getElem?_set_ne hi] at h
      obtain ⟨h1, h2, h3⟩ := dwipe_some h
      exact ⟨h1, by simp only [List.mem_cons, not_or]; exact ⟨fun e => hi e.symm, h2⟩, h3⟩
theorem RelS.blk {K : PySem.W.Frag} {mg : Str → Option Value} {pn : List (Addr × Obj)} {H : Hp} {mu : List Addr} {st : L2.St} {ds : DS} (r : RelS K mg pn H mu st ds) (vs : List Nat) : RelS K mg [] H mu (wipe st vs) (dwipe ds vs) where
  len := by rw [wipe_length, dwipe_len]; exact r.len
  at_ := fun i s h n => by
    obtain ⟨h1, h2, h3⟩ := dwipe_some h
    obtain ⟨v, e, rv⟩ := r.at_ i s h1 n
    exact ⟨v, by rw [wipe_none h2]; exact e, rv⟩
  ex := fun i x h => absurd rfl ((dwipe_some h).2.2 x)

/-- the result of a block may not be an exception -/
def Out.calm {α : Type} : Out α → Out α
  | .ok a h => .ok a h
  | _ => .bad
@[simp] theorem Out.calm_ok {α : Type} (a : α) (h : LH) : (Out.ok a h).calm = .ok a h := rfl
/-- items through a comprehension -/
def compL (tg : D → DS → Option DS) (tt : DS → LH → Out Bool) (fe : DS → LH → Out SV) (ds : DS) : List D → LH → Out (List D)
  | [], h => .ok [] h
  | x :: r, h => orBad (tg x ds) fun ds1 => (tt ds1 h).calm.bind fun b h1 => match b with
    | true => (fe ds1 h1).calm.bind fun y h2 => orBad (asVal y) fun d => (compL tg tt fe ds r h2).bind fun l h3 => .ok (d :: l) h3
    | false => compL tg tt fe ds r h1
def fLc (fi : DS → LH → Out (List D)) (tg : D → DS → Option DS) (tt : DS → LH → Out Bool) (fe : DS → LH → Out SV) (vs : List Nat) : DS → LH → Out (List D) := fun ds h =>
  (fi ds h).bind fun items h1 => iff (items.length ≤ sizeLine) (compL tg tt fe (dwipe ds vs) items h1)
theorem compL_exc {tg : D → DS → Option DS} {tt : DS → LH → Out Bool} {fe : DS → LH → Out SV} {ds : DS} : ∀ (l : List D) (h : LH) (x : XV) (h' : LH), compL tg tt fe ds l h ≠ .exc x h'
  | [], h, x, h' => by unfold compL; intro z; cases z
  | y :: r, h, x, h' => by
    unfold compL
    cases tg y ds with
    | none => intro z; cases z
    | some ds1 =>
      rw [orBad_some]
      cases tt ds1 h with
      | bad => intro z; cases z
      | exc _ _ => intro z; cases z
      | ok b h1 =>
        rw [Out.calm_ok, Out.bind_ok]
        cases b with
        | false => exact compL_exc r h1 x h'
        | true =>
          show ((fe ds1 h1).calm.bind _) ≠ _
          cases fe ds1 h1 with
          | bad => intro z; cases z
          | exc _ _ => intro z; cases z
          | ok y h2 =>
            rw [Out.calm_ok, Out.bind_ok]
            cases asVal y with
            | none => intro z; cases z
            | some d =>
              rw [orBad_some]
              cases e : compL tg tt fe ds r h2 with
              | bad => intro z; cases z
              | exc x1 h3 => exact absurd e (compL_exc r h2 x1 h3)
              | ok l h3 => intro z; cases z
/-- the tests of a comprehension -/
structure SM (X : Cx) (W : WX) (ifs : List Expr) (f : DS → LH → Out Bool) : Prop where
  pts : PTs X ifs (LT X W f)
theorem PTs.imp {X : Cx} {e : List Expr} {t t' : TT} (h : PTs X e t) (i : ∀ st H Q, t' st H Q → t st H Q) : PTs X e t' := ⟨fun pins s st H Q I q => h.run pins s st H Q I (i _ _ _ q)⟩
def tYes' : DS → LH → Out Bool := fun _ h => .ok true h
theorem sm_nil {X : Cx} {W : WX} : SM X W [] tYes' := ⟨PTs.imp pts_nil fun st H Q ⟨ds, mu, h, rs, rh, q⟩ => q.here rh rfl⟩
theorem sm_one {X : Cx} {W : WX} {c : Expr} {f : DS → LH → Out Bool} (h : TM X W c f) : SM X W [c] f := ⟨pts_one h.pt⟩

theorem RelH.setL {K : PySem.W.Frag} {H : Hp} {mu : List Addr} {h : LH} (r : RelH K H mu h) {p : Addr} {xs ys : List V} (n : p ∉ mu) (e : H p = some (.lst xs)) : RelH K (upd H p (.lst ys)) mu h :=
  ⟨r.len, r.nd, fun m a g h1 h2 => (r.at_ m a g h1 h2).keep (fun u q => by rw [upd_ne (fun z => n (by rw [← z]; exact List.mem_of_getElem? h1))]; exact q) fun _ _ q => q.mono
    ⟨fun b ys q => by rw [upd_ne (ne_of q e (by intro z; cases z))]; exact q, fun b o' u q => by rw [upd_ne (ne_of q e (by intro z; cases z))]; exact q⟩⟩
theorem mono_setL {H : Hp} {p : Addr} {xs ys : List V} (e : H p = some (.lst xs)) : Mono H (upd H p (.lst ys)) :=
  ⟨fun b zs q => by rw [upd_ne (ne_of q e (by intro z; cases z))]; exact q, fun b o' u q => by rw [upd_ne (ne_of q e (by intro z; cases z))]; exact q⟩
theorem Ext.setL {mu mu' : List Addr} {H H' : Hp} (x : Ext mu H mu' H') {p : Addr} {xs ys : List V} (n : H p = none) (e : H' p = some (.lst xs)) : Ext mu H mu' (upd H' p (.lst ys)) where
  mono := x.mono.trans (mono_setL e)
  keep := fun b u q hb => by rw [upd_ne (ne_of_none q n)]; exact x.keep b u q hb
  more := x.more
  live := fun b q => by
    by_cases z : b = p
    · subst z; rw [upd_same]; simp
    · rw [upd_ne z]; exact x.live b q

section
variable {X : Cx} {W : WX} {elt tg iter : Expr} {ifs : List Expr} {scope : Scope} {own : List (Str × Nat)} {pos : Pos} {fi : DS → LH → Out (List D)} {ft : D → DS → Option DS} {tt : DS → LH → Out Bool} {fe : DS → LH → Out SV} {is : List Nat}
theorem wipe_tg {st st' : L2.St} {ds ds' : DS} {is : List Nat} : ∀ {vs : List Nat}, TgOk is st ds st' ds' → (∀ i ∈ is, i ∈ vs) → wipe st' vs = wipe st vs := fun {vs} t h => by
  apply List.ext_getElem?
  intro i
  by_cases hi : i ∈ vs
  · have aux : ∀ (s : L2.St) (vs : List Nat), i ∈ vs → (wipe s vs)[i]? = if i < s.length then some none else none := by
      intro s vs
      induction vs with
      | nil => intro h; simp at h
      | cons v vs ih =>
        intro h
        unfold wipe
        by_cases e : v = i
        · subst e
          by_cases hl : v < s.length
          · rw [if_pos hl, List.getElem?_set_self (by rw [wipe_length]; exact hl)]
          · rw [if_neg hl, List.getElem?_eq_none (by rw [List.length_set, wipe_length]; omega)]
        · rw [List.getElem?_set_ne e]
          rcases List.mem_cons.mp h with z | z
          · exact absurd z.symm e
          · exact ih z
    rw [aux _ _ hi, aux _ _ hi, t.len]
  · rw [wipe_none hi, wipe_none hi]
    exact (t.out i (fun z => hi (h i z))).1
theorem wipe_wipe (st : L2.St) (vs : List Nat) : wipe (wipe st vs) vs = wipe st vs := by
  apply List.ext_getElem?
  intro i
  by_cases hi : i ∈ vs
  · have aux : ∀ (s : L2.St) (vs : List Nat), i ∈ vs → (wipe s vs)[i]? = if i < s.length then some none else none := by
      intro s vs
      induction vs with
      | nil => intro h; simp at h
      | cons v vs ih =>
        intro h
        unfold wipe
        by_cases e : v = i
        · subst e
          by_cases hl : v < s.length
          · rw [if_pos hl, List.getElem?_set_self (by rw [wipe_length]; exact hl)]
          · rw [if_neg hl, List.getElem?_eq_none (by rw [List.length_set, wipe_length]; omega)]
        · rw [List.getElem?_set_ne e]
          rcases List.mem_cons.mp h with z | z
          · exact absurd z.symm e
          · exact ih z
    rw [aux _ _ hi, aux _ _ hi, wipe_length]
  · rw [wipe_none hi, wipe_none hi]
theorem LF.comp {fi : DS → LH → Out (List D)} {vs : List Nat} (hsub : ∀ i ∈ is, i ∈ vs)
    {wi : TI} {g : TG} {t : TT} {te : TE}
    (hwi : ∀ st H R, (∃ ds mu h, RelS X.K X.mg X.pn H mu st ds ∧ RelH X.K H mu h ∧ After X.K X.mg (fun c dd H' => W c dd st H') (fun H' mu' J items => Serves X.K J H' items) mu H (fi ds h) R) → wi st H R)
    (hg : ∀ v st H Q, (∃ d ds mu ds', RelS X.K X.mg [] H mu st ds ∧ Rp X.K H v d ∧ ft d ds = some ds' ∧ ∀ st', RelS X.K X.mg [] H mu st' ds' → TgOk is st ds st' ds' → Q st' H) → g v st H Q)
    (ht : ∀ st H Q, (∃ ds mu h, RelS X.K X.mg [] H mu st ds ∧ RelH X.K H mu h ∧ After X.K X.mg (fun c dd H' => False) (fun _ _ (v : Bool) b => v = b) mu H (tt ds h) Q) → t st H Q)
    (he : ∀ st H Q, (∃ ds mu h, RelS X.K X.mg [] H mu st ds ∧ RelH X.K H mu h ∧ After X.K X.mg (fun c dd H' => False) (rSV X.K) mu H (fe ds h) Q) → te st H Q) :
    ∀ st H Q, LF X W (fLc fi ft tt fe vs) st H Q → tLc wi g t te vs st H Q := by
  rintro st H Q ⟨ds, mu, h, rs, rh, q⟩
  have q : After X.K X.mg (fun c dd H' => W c dd st H') (fun H' mu' v l => ∃ a xs, v = V.ref a ∧ H a = none ∧ a ∉ mu' ∧ H' a = some (.lst xs) ∧ RpAll X.K H' xs l) mu H ((fi ds h).bind fun items h1 => iff (items.length ≤ sizeLine) (compL ft tt fe (dwipe ds vs) items h1)) Q := q
  refine hwi st H _ ⟨ds, mu, h, rs, rh, After.step q fun items h1 J H1 mu1 eo e1 rh1 sv q1 => ?_⟩
  rw [eo] at q
  have q : After X.K X.mg (fun c dd H' => W c dd st H') (fun H' mu' v l => ∃ a xs, v = V.ref a ∧ H a = none ∧ a ∉ mu' ∧ H' a = some (.lst xs) ∧ RpAll X.K H' xs l) mu H (iff (items.length ≤ sizeLine) (compL ft tt fe (dwipe ds vs) items h1)) Q := q
  obtain ⟨hz, q⟩ := q.iff
  intro D0 hD
  have hD0 : H D0 = none := by
    cases z : H D0 with
    | none => rfl
    | some u => exact absurd hD (e1.live D0 (by rw [z]; simp))
  cases eq : compL ft tt fe (dwipe ds vs) items h1 with
  | bad => rw [eq] at q; exact q.elim
  | exc x h2 => exact absurd eq (compL_exc _ _ _ _)
  | ok l hf =>
    rw [eq] at q
    refine ⟨fun i m H' => m = items.length - i ∧ i ≤ items.length ∧ ∃ mu' hh xs acc lr, Ext mu1 H1 mu' H' ∧ RelH X.K H' mu' hh ∧ H' D0 = some (.lst xs) ∧ D0 ∉ mu' ∧ RpAll X.K H' xs acc ∧ acc.length ≤ i ∧ compL ft tt fe (dwipe ds vs) (items.drop i) hh = .ok lr hf ∧ acc ++ lr = l,
      ⟨items.length, by simp, by simp, mu1, h1, [], [], l, ext_new hD, rh1.new hD, upd_same, rh1.notin hD, .nil, by simp, by rw [List.drop_zero]; exact eq, rfl⟩, ?_⟩
    rintro i m H2 ⟨rfl, hi, mu2, hh, xs, acc, lr, e2, rh2, eD, nD, ra, la, ec, el⟩
    obtain ⟨sgo, sst⟩ := sv i H2 e2.mono
    by_cases hlt : i < items.length
    · right
      have hx : items[i]? = some items[i] := List.getElem?_eq_getElem hlt
      obtain ⟨go, yl⟩ := sgo _ hx
      refine ⟨go, fun H' => ∃ mu' hh xs acc lr, Ext mu1 H1 mu' H' ∧ RelH X.K H' mu' hh ∧ H' D0 = some (.lst xs) ∧ D0 ∉ mu' ∧ RpAll X.K H' xs acc ∧ acc.length ≤ i + 1 ∧ compL ft tt fe (dwipe ds vs) (items.drop (i + 1)) hh = .ok lr hf ∧ acc ++ lr = l,
        fun H' hn => ⟨items.length - (i + 1), by omega, rfl, hlt, hn⟩, fun v H3 hy => ?_⟩
      obtain ⟨e3, rv⟩ := yl v H3 hy
      rw [List.drop_eq_getElem_cons hlt] at ec
      unfold compL at ec
      cases etg : ft items[i] (dwipe ds vs) with
      | none => rw [etg] at ec; cases ec
      | some ds1 =>
        rw [etg, orBad_some] at ec
        -- the item's own heap
        have e3' : Ext mu2 H2 mu2 H3 := ⟨e3.mono, fun b u q _ => e3.keep b u q (by simp), ⟨[], by simp, by simp⟩, e3.live⟩
        have rh3 : RelH X.K H3 mu2 hh := rh2.same e3' fun a _ u q => e3.keep a u q (by simp)
        have e13 := e2.trans e3'
        have eD3 : H3 D0 = some (.lst xs) := e3.keep _ _ eD (by simp)
        have rb : RelS X.K X.mg [] H3 mu2 (wipe st vs) (dwipe ds vs) := ((rs.ext e1).ext e13).blk vs
        refine hg v (wipe st vs) H3 _ ⟨items[i], dwipe ds vs, mu2, ds1, rb, rv, etg, fun st' rs' tk => ⟨by rw [wipe_tg tk hsub, wipe_wipe], ?_⟩⟩
        refine ht st' H3 _ ⟨ds1, mu2, hh, rs', rh3, ?_⟩
        cases ett : tt ds1 hh with
        | bad => rw [ett] at ec; cases ec
        | exc _ _ => rw [ett] at ec; cases ec
        | ok b h4 =>
          rw [ett, Out.calm_ok, Out.bind_ok] at ec
          intro b' H4 mu4 e4 rh4 eb
          subst eb
          have e14 := e13.trans e4
          have eD4 := e4.keep _ _ eD3 nD
          have nD4 := e4.notin eD3 nD
          have ra4 := (ra.mono e3'.mono).mono e4.mono
          cases b' with
          | false => exact iteF ⟨mu4, h4, xs, acc, lr, e14, rh4, eD4, nD4, ra4, by omega, ec, el⟩
          | true =>
            refine iteT (he st' H4 _ ⟨ds1, mu4, h4, rs'.ext e4, rh4, ?_⟩)
            have ec : ((fe ds1 h4).calm.bind fun y h2 => orBad (asVal y) fun d => (compL ft tt fe (dwipe ds vs) (items.drop (i + 1)) h2).bind fun l h3 => .ok (d :: l) h3) = .ok lr hf := ec
            cases efe : fe ds1 h4 with
            | bad => rw [efe] at ec; cases ec
            | exc _ _ => rw [efe] at ec; cases ec
            | ok y h5 =>
              rw [efe, Out.calm_ok, Out.bind_ok] at ec
              cases ev : asVal y with
              | none => rw [ev] at ec; cases ec
              | some d =>
                rw [ev, orBad_some] at ec
                have ey := asVal_of ev
                subst ey
                cases er : compL ft tt fe (dwipe ds vs) (items.drop (i + 1)) h5 with
                | bad => rw [er] at ec; cases ec
                | exc _ _ => rw [er] at ec; cases ec
                | ok l2 h6 =>
                  rw [er, Out.bind_ok] at ec
                  cases ec
                  intro w H5 mu5 e5 rh5 rw5
                  have eD5 := e5.keep _ _ eD4 nD4
                  have nD5 := e5.notin eD4 nD4
                  have ra5 := ra4.mono e5.mono
                  refine ⟨xs, eD5, by rw [ra5.length]; omega, mu5, h5, xs ++ [w], acc ++ [d], l2, (e14.trans e5).setL hD eD5, rh5.setL nD5 eD5, upd_same, nD5, ?_, by rw [List.length_append]; simp; omega, er, by rw [List.append_assoc]; exact el⟩
                  exact (ra5.append (.cons rw5 .nil)).mono (mono_setL eD5)
    · left
      have ei : i = items.length := by omega
      subst ei
      refine ⟨sst (Nat.le_refl _), ?_⟩
      rw [List.drop_length] at ec
      unfold compL at ec
      cases ec
      rw [List.append_nil] at el
      subst el
      exact q _ H2 mu2 (e1.trans e2) rh2 ⟨D0, xs, rfl, hD0, nD, eD, ra⟩
theorem fm_lc (hc : X.calm = true) (hN : X.N.Nodup) (hi : IM X W tg iter fi) (ok : BlkOk X.N X.env.scope scope own)
    (hg : ∀ (s : Shared) (H : Hp) (C : Addr) (cl : List (Str × Addr)) (fp : List Addr), GM (X.blk s H scope (compEnvC scope cl C X.env) fp) tg is ft) (ht : ∀ (s : Shared) (H : Hp) (C : Addr) (cl : List (Str × Addr)) (fp : List Addr), SM (X.blk s H scope (compEnvC scope cl C X.env) fp) NW ifs tt)
    (he : ∀ (s : Shared) (H : Hp) (C : Addr) (cl : List (Str × Addr)) (fp : List Addr), EM (X.blk s H scope (compEnvC scope cl C X.env) fp) NW elt fe) (hsub : ∀ i ∈ is, i ∈ own.map (·.2)) (hs : ∀ x, foldedSetIterable iter X.env x = pure x := by intro _; rfl) :
    FM X W (.ListComp elt [⟨tg, iter, ifs, 0⟩] scope pos) (fLc fi ft tt fe (own.map (·.2))) :=
  ⟨PE.imp (pe_lc hc hN hi.pi ok (fun s H C cl fp => (hg s H C cl fp).pg) (fun s H C cl fp => (ht s H C cl fp).pts) (fun s H C cl fp => (he s H C cl fp).pe) hs)
    (LF.comp hsub (fun _ _ _ q => q) (fun _ _ _ _ q => q) (fun _ _ _ q => q) fun _ _ _ q => q)⟩
end
end U
/-! U6: what a def promises, calls of defs. -/
namespace U
open PySem PySem.Spec PyProof.Rows L2

/-- a def over data: its arguments, the logical heap -/
abbrev RF := List SV → LH → Out SV
/-- what may be handed over -/
def Hand : SV → Prop
  | .val _ => True
  | .ref _ => True
  | .scr _ => True
  | _ => False
def handB : SV → Bool
  | .val _ => true
  | .ref _ => true
  | .scr _ => true
  | _ => false
/-- an answer: a list of one's own is new -/
def RelR (K : PySem.W.Frag) (H0 H : Hp) (mu : List Addr) (v : V) : SV → Prop
  | .own ds => ∃ a xs, v = .ref a ∧ H0 a = none ∧ a ∉ mu ∧ H a = some (.lst xs) ∧ RpAll K H xs ds
  | s => RelSV K H mu v s
def spOf (K : PySem.W.Frag) (mg : Str → Option Value) (n : Nat) (run : RF) : Sp := fun vs H Q E => vs.length = n ∧ ∃ ss mu h, All2 (RelSV K H mu) vs ss ∧ (∀ s ∈ ss, Hand s) ∧ RelH K H mu h ∧
  After K mg E (fun H' mu' v s => RelR K H H' mu' v s) mu H (run ss h) Q
/-- a def that works on data alone: its heap is its own -/
def pureRun (run : RF) (xs : List SV) : Out SV := run xs []
@[simp] def isVal : SV → Bool
  | .val _ => true
  | .scr _ => true
  | _ => false
/-- a call on the data's own heap -/
def gPure (run : RF) (xs : List SV) (h : LH) : Out SV := iff (xs.all isVal = true) (match run xs [] with
  | .ok (.val d) _ => .ok (.val d) h
  | .exc x _ => .exc x h
  | _ => .bad)
/-- .. whose answer is a list of one's own -/
def gPureF (run : RF) (xs : List SV) (h : LH) : Out (List D) := iff (xs.all isVal = true) (match run xs [] with
  | .ok (.own d) _ => .ok d h
  | .exc x _ => .exc x h
  | _ => .bad)
/-- a call on the whole heap -/
def gCall (run : RF) (xs : List SV) (h : LH) : Out SV := iff (xs.all handB = true) (match run xs h with
  | .ok (.own _) _ => .bad
  | o => o)
theorem RelSV.nomu {K : PySem.W.Frag} {H : Hp} {mu mu' : List Addr} {v : V} {s : SV} (h : isVal s = true) (r : RelSV K H mu v s) : RelSV K H mu' v s := by
  cases s <;> first | exact r | cases h
theorem isVal_hand {s : SV} (h : isVal s = true) : Hand s := by cases s <;> first | trivial | cases h
theorem handB_hand {s : SV} (h : handB s = true) : Hand s := by cases s <;> first | trivial | cases h
theorem all2_nomu {K : PySem.W.Frag} {H : Hp} {mu mu' : List Addr} : ∀ {vs : List V} {ss : List SV}, ss.all isVal = true → All2 (RelSV K H mu) vs ss → All2 (RelSV K H mu') vs ss
  | _, _, _, .nil => .nil
  | _, _, h, .cons r t => by
    rw [List.all_cons, Bool.and_eq_true] at h
    exact .cons (r.nomu h.1) (all2_nomu h.2 t)
theorem relH_nil (K : PySem.W.Frag) (H : Hp) : RelH K H [] [] := ⟨rfl, List.nodup_nil, fun n a o h => by simp at h⟩
/-- behind a call that had no logical heap, ours stands -/
theorem ext_pure {K : PySem.W.Frag} {mu nu : List Addr} {H H' : Hp} {h : LH} (e : Ext [] H nu H') (rh : RelH K H mu h) : Ext mu H mu H' ∧ RelH K H' mu h := by
  have e' : Ext mu H mu H' := ⟨e.mono, fun b u q _ => e.keep b u q (by simp), ⟨[], by simp, by simp⟩, e.live⟩
  exact ⟨e', rh.same e' fun a _ u q => e.keep a u q (by simp)⟩
section
variable {X : Cx} {W : WX} {a b c e o : Expr} {fa fb fo : DS → LH → Out SV} {pos p apos : Pos} {x m : Str} {es : List Expr} {fs : DS → LH → Out (List SV)} {k n : Nat} {f C : Addr} {fd : FuncData} {ps : List Str} {run : RF}

theorem sp_call (K : PySem.W.Frag) (mg : Str → Option Value) {E : XK} {mu : List Addr} {h : LH} {H : Hp} {vs : List V} {ss : List SV} {Q : VK} (hn : vs.length = n) (rh : RelH K H mu h) (rr : All2 (RelSV K H mu) vs ss) (q : After K mg E (rSV K) mu H (gCall run ss h) Q) : spOf K mg n run vs H Q E := by
  obtain ⟨ha, q⟩ := q.iff
  refine ⟨hn, ss, mu, h, rr, fun s hs => handB_hand (List.all_eq_true.mp ha s hs), rh, ?_⟩
  cases eq : run ss h with
  | bad => rw [eq] at q; exact q
  | exc y h1 => rw [eq] at q; exact q
  | ok s h1 =>
    cases s with
    | own ds => rw [eq] at q; exact q.elim
    | _ => rw [eq] at q; exact q
theorem sp_pure (K : PySem.W.Frag) (mg : Str → Option Value) {E : XK} {mu : List Addr} {h : LH} {H : Hp} {vs : List V} {ss : List SV} {Q : VK} (hn : vs.length = n) (rh : RelH K H mu h) (rr : All2 (RelSV K H mu) vs ss) (q : After K mg E (rSV K) mu H (gPure run ss h) Q) : spOf K mg n run vs H Q E := by
  obtain ⟨ha, q⟩ := q.iff
  refine ⟨hn, ss, [], [], all2_nomu ha rr, fun s hs => isVal_hand (List.all_eq_true.mp ha s hs), relH_nil K H, ?_⟩
  cases eq : run ss [] with
  | bad => rw [eq] at q; exact q
  | exc y h1 =>
    rw [eq] at q
    intro c dd H' mu' e1 _ rx
    obtain ⟨e2, rh2⟩ := ext_pure e1 rh
    exact q c dd H' mu e2 rh2 rx
  | ok s h1 =>
    rw [eq] at q
    cases s with
    | val d =>
      intro v H' mu' e1 _ r
      obtain ⟨e2, rh2⟩ := ext_pure e1 rh
      exact q v H' mu e2 rh2 r
    | _ => exact q.elim
theorem all2_len {α β : Type} {R : α → β → Prop} {as : List α} {bs : List β} (h : All2 R as bs) : as.length = bs.length := h.length
/-- the number of the arguments is right -/
def nArgs (n : Nat) (g : List SV → LH → Out SV) : List SV → LH → Out SV := fun xs h => iff (xs.length = n) (g xs h)
theorem em_call (F : FnOk X.prog X.w X.K X.mg X.base (L2.CX X.prog X.w) k f fd ps (spOf X.K X.mg n run)) (hr : Room k X.A) (hg : Gl X x) (hm : X.mg x = some (.ref f)) (hk : PySem.W.keepIn X.K (.ref f) = true) (hb : Binds X.K fd ps []) (tk : Takes X W)
    (ha : AM X W (e :: es) fs) (hdb : (x == ("__debug__" : Str)) = false := by decide) (he : starEach (e :: es) X.env = (false, eval e X.env) :: starEach es X.env := by rfl) (hpl : (backTo pos (starEach es X.env)).any (·.1) = false := by rfl) :
    EM X W (.Call (.Name x p) (e :: es) [] pos) (eArgs (nArgs n (gCall run)) fs) :=
  ⟨PE.imp (pe_callS F hr hg hm hk hb (fun st => passAt tk st) ha.pa hdb he hpl) fun st H Q ⟨ds, mu, h, rs, rh, q⟩ => ⟨ds, mu, h, rs, rh, After.step q fun xs h1 vs H1 mu1 _ e1 rh1 r1 q1 => by
    obtain ⟨hn, q2⟩ := q1.iff
    exact sp_call X.K X.mg (by rw [r1.length]; exact hn) rh1 r1 q2⟩⟩
theorem em_callP (F : FnOk X.prog X.w X.K X.mg X.base (L2.CX X.prog X.w) k f fd ps (spOf X.K X.mg n run)) (hr : Room k X.A) (hg : Gl X x) (hm : X.mg x = some (.ref f)) (hk : PySem.W.keepIn X.K (.ref f) = true) (hb : Binds X.K fd ps []) (tk : Takes X W)
    (ha : AM X W (e :: es) fs) (hdb : (x == ("__debug__" : Str)) = false := by decide) (he : starEach (e :: es) X.env = (false, eval e X.env) :: starEach es X.env := by rfl) (hpl : (backTo pos (starEach es X.env)).any (·.1) = false := by rfl) :
    EM X W (.Call (.Name x p) (e :: es) [] pos) (eArgs (nArgs n (gPure run)) fs) :=
  ⟨PE.imp (pe_callS F hr hg hm hk hb (fun st => passAt tk st) ha.pa hdb he hpl) fun st H Q ⟨ds, mu, h, rs, rh, q⟩ => ⟨ds, mu, h, rs, rh, After.step q fun xs h1 vs H1 mu1 _ e1 rh1 r1 q1 => by
    obtain ⟨hn, q2⟩ := q1.iff
    exact sp_pure X.K X.mg (by rw [r1.length]; exact hn) rh1 r1 q2⟩⟩
theorem takes_nw : Takes X NW := takes0
/-- f() -/
def tCallS0 (sp : Sp) (E : L2.St → XK) : TE := fun st H Q => sp [] H Q (E st)
theorem pe_call0S {sp : Sp} {E : L2.St → XK} {CX : CXT} (F : FnOk X.prog X.w X.K X.mg X.base CX k f fd ps sp) (hr : Room k X.A) (hg : Gl X x) (hm : X.mg x = some (.ref f)) (hk : PySem.W.keepIn X.K (.ref f) = true) (hb : Binds X.K fd ps []) (hx : ∀ st, PassesAt CX X st (E st))
    (hdb : (x == ("__debug__" : Str)) = false := by decide) : PE X (.Call (.Name x p) [] [] pos) (tCallS0 sp E) := by
  refine ⟨fun pins s st H Q I h => ?_⟩
  refine wpAny_Call_Name_kw (ld_glob I hg hm ?_ hdb)
  exact PySem.W.callWith_K0 I.kIn hk (run_fnS (us := []) F hr hb (hx st) I .nil h)
theorem em_call0P (F : FnOk X.prog X.w X.K X.mg X.base (L2.CX X.prog X.w) k f fd ps (spOf X.K X.mg 0 run)) (hr : Room k X.A) (hg : Gl X x) (hm : X.mg x = some (.ref f)) (hk : PySem.W.keepIn X.K (.ref f) = true) (hb : Binds X.K fd ps []) (tk : Takes X W)
    (hdb : (x == ("__debug__" : Str)) = false := by decide) : EM X W (.Call (.Name x p) [] [] pos) (fun _ h => gPure run [] h) :=
  ⟨PE.imp (pe_call0S F hr hg hm hk hb (fun st => passAt tk st) hdb) fun st H Q ⟨ds, mu, h, rs, rh, q⟩ => sp_pure X.K X.mg rfl rh .nil q⟩
end
end U
/-! U7: statements. -/
namespace U
open PySem PySem.Spec PyProof.Rows L2

structure RelF (X : Cx) (mu0 : List Addr) (st : L2.St) (ds : DS) (H : Hp) (mu : List Addr) (h : LH) : Prop where
  rs : RelS X.K X.mg X.pn H mu st ds
  rh : RelH X.K H mu h
  ext : Ext mu0 X.H_0 mu H
  fresh : ∀ (i : Nat) (l : List D) (a : Addr), ds[i]? = some (some (.own l)) → st[i]? = some (some (.ref a)) → X.H_0 a = none
  apart : ∀ (i j : Nat) (l l' : List D) (a : Addr), i ≠ j → ds[i]? = some (some (.own l)) → ds[j]? = some (some (.own l')) → st[i]? = some (some (.ref a)) → st[j]? ≠ some (some (.ref a))
theorem RelF.step {X : Cx} {mu0 : List Addr} {st : L2.St} {ds : DS} {H H' : Hp} {mu mu' : List Addr} {h h' : LH} (r : RelF X mu0 st ds H mu h) (e : Ext mu H mu' H') (rh : RelH X.K H' mu' h') : RelF X mu0 st ds H' mu' h' :=
  ⟨r.rs.ext e, rh, r.ext.trans e, r.fresh, r.apart⟩

inductive SO where
  | nx (ds : DS) (h : LH) | bk (ds : DS) (h : LH) | ct (ds : DS) (h : LH) | rt (s : SV) (h : LH) | exc (x : XV) (ds : DS) (h : LH) | bad
abbrev SF := DS → LH → SO
/-- an expression's result, then a statement's -/
def Out.so {α : Type} (o : Out α) (ds : DS) (k : α → LH → SO) : SO := match o with
  | .ok a h => k a h
  | .exc x h => .exc x ds h
  | .bad => .bad
@[simp] theorem Out.so_ok {α : Type} (a : α) (h : LH) (ds : DS) (k : α → LH → SO) : (Out.ok a h).so ds k = k a h := rfl
@[simp] theorem Out.so_exc {α : Type} (x : XV) (h : LH) (ds : DS) (k : α → LH → SO) : (Out.exc x h : Out α).so ds k = .exc x ds h := rfl
@[simp] theorem Out.so_bad {α : Type} (ds : DS) (k : α → LH → SO) : (Out.bad : Out α).so ds k = .bad := rfl
def orBadS {α : Type} (o : Option α) (k : α → SO) : SO := match o with
  | some a => k a
  | none => .bad
@[simp] theorem orBadS_some {α : Type} (a : α) (k : α → SO) : orBadS (some a) k = k a := rfl
@[simp] theorem orBadS_none {α : Type} (k : α → SO) : orBadS none k = .bad := rfl
def iffS (c : Prop) [Decidable c] (o : SO) : SO := if c then o else .bad
theorem iffS_pos {c : Prop} [Decidable c] (h : c) (o : SO) : iffS c o = o := if_pos h

section
variable {X : Cx} {W : WX} {mu0 : List Addr}
def AfterS (X : Cx) (W : WX) (mu0 : List Addr) (H : Hp) (o : SO) (E : Ends) : Prop := match o with
  | .nx ds h => ∀ st' H' mu', RelF X mu0 st' ds H' mu' h → Mono H H' → E.nx st' H'
  | .bk ds h => ∀ st' H' mu', RelF X mu0 st' ds H' mu' h → Mono H H' → E.bk st' H'
  | .ct ds h => ∀ st' H' mu', RelF X mu0 st' ds H' mu' h → Mono H H' → E.ct st' H'
  | .rt s h => ∀ v H' mu', Ext mu0 X.H_0 mu' H' → RelH X.K H' mu' h → RelR X.K X.H_0 H' mu' v s → E.rt v H'
  | .exc x ds h => ∀ c dd st' H' mu', RelF X mu0 st' ds H' mu' h → Mono H H' → RelX X.K X.mg H' c dd x → W c dd st' H'
  | .bad => False
theorem AfterS.mono {H H1 : Hp} {o : SO} {E : Ends} (h : AfterS X W mu0 H o E) (m : Mono H H1) : AfterS X W mu0 H1 o E := by
  cases o with
  | nx ds hh => exact fun st' H' mu' r m' => h st' H' mu' r (m.trans m')
  | bk ds hh => exact fun st' H' mu' r m' => h st' H' mu' r (m.trans m')
  | ct ds hh => exact fun st' H' mu' r m' => h st' H' mu' r (m.trans m')
  | rt s hh => exact h
  | exc x ds hh => exact fun c dd st' H' mu' r m' => h c dd st' H' mu' r (m.trans m')
  | bad => exact h
theorem AfterS.orBad {α : Type} {H : Hp} {o : Option α} {k : α → SO} {E : Ends} (q : AfterS X W mu0 H (orBadS o k) E) : ∃ a, o = some a ∧ AfterS X W mu0 H (k a) E := by
  cases o with
  | none => exact q.elim
  | some a => exact ⟨a, rfl, q⟩
theorem AfterS.iff {H : Hp} {c : Prop} [Decidable c] {o : SO} {E : Ends} (q : AfterS X W mu0 H (iffS c o) E) : c ∧ AfterS X W mu0 H o E := by
  unfold iffS at q
  by_cases h : c
  · rw [if_pos h] at q; exact ⟨h, q⟩
  · rw [if_neg h] at q; exact q.elim
def LS (X : Cx) (W : WX) (mu0 : List Addr) (f : SF) : TS := fun E st H => ∃ ds mu h, RelF X mu0 st ds H mu h ∧ AfterS X W mu0 H (f ds h) E
structure PM (X : Cx) (W : WX) (mu0 : List Addr) (s : Stmt) (f : SF) : Prop where
  ps : PS X s (LS X W mu0 f)
structure BM (X : Cx) (W : WX) (mu0 : List Addr) (s : List Stmt) (f : SF) : Prop where
  pss : PSs X s (LS X W mu0 f)
/-- an expression within a statement -/
theorem LS.expr {α γ : Type} {R : Hp → List Addr → γ → α → Prop} {st : L2.St} {ds : DS} {H : Hp} {mu : List Addr} {h : LH} {o : Out α} {k : α → LH → SO} {E : Ends} {P : γ → Hp → Prop} (r : RelF X mu0 st ds H mu h) (q : AfterS X W mu0 H (o.so ds k) E)
    (f : ∀ a h1 v H1 mu1, o = .ok a h1 → Ext mu H mu1 H1 → RelF X mu0 st ds H1 mu1 h1 → R H1 mu1 v a → AfterS X W mu0 H1 (k a h1) E → P v H1) : After X.K X.mg (fun c dd H' => W c dd st H') R mu H o P := by
  cases o with
  | bad => exact q
  | exc x h' => exact fun c dd H' mu' e rh rx => q c dd st H' mu' (r.step e rh) e.mono rx
  | ok a h1 => exact fun v H1 mu1 e rh rr => f a h1 v H1 mu1 rfl e (r.step e rh) rr (AfterS.mono (show AfterS X W mu0 H (k a h1) E from q) e.mono)
variable {s : Stmt} {rest : List Stmt} {f g : SF} {a b e : Expr} {fe fa : DS → LH → Out SV} {ft : DS → LH → Out Bool} {pos pos' : Pos} {i : Nat} {x : Str}

/-! ### blocks -/
def sNil : SF := fun ds h => .nx ds h
def sSeq (f g : SF) : SF := fun ds h => match f ds h with
  | .nx ds' h' => g ds' h'
  | o => o
theorem bm_nil : BM X W mu0 [] sNil := ⟨PSs.imp pss_nil fun E st H ⟨ds, mu, h, r, q⟩ => q st H mu r (.refl H)⟩
theorem bm_one (h : PM X W mu0 s f) : BM X W mu0 [s] f := ⟨pss_one h.ps⟩
theorem bm_cons (h1 : PM X W mu0 s f) (h2 : BM X W mu0 rest g) : BM X W mu0 (s :: rest) (sSeq f g) := ⟨PSs.imp (pss_cons h1.ps h2.pss) fun E st H ⟨ds, mu, h, r, q⟩ => ⟨ds, mu, h, r, by
  unfold sSeq at q
  cases eq : f ds h with
  | nx ds' h' =>
    rw [eq] at q
    exact fun st' H' mu' r' m => ⟨ds', mu', h', r', AfterS.mono (show AfterS X W mu0 H (g ds' h') E from q) m⟩
  | _ => rw [eq] at q; exact q⟩⟩
theorem pm_pass : PM X W mu0 (.Pass pos) sNil := ⟨PS.imp ps_pass fun E st H ⟨ds, mu, h, r, q⟩ => q st H mu r (.refl H)⟩
theorem pm_doc {x j} : PM X W mu0 (.Expr (.Constant (.str x) j pos) pos') sNil := ⟨PS.imp ps_doc fun E st H ⟨ds, mu, h, r, q⟩ => q st H mu r (.refl H)⟩
theorem pm_break : PM X W mu0 (.Break pos) (fun ds h => .bk ds h) := ⟨PS.imp ps_break fun E st H ⟨ds, mu, h, r, q⟩ => q st H mu r (.refl H)⟩
theorem pm_cont : PM X W mu0 (.Continue pos) (fun ds h => .ct ds h) := ⟨PS.imp ps_continue fun E st H ⟨ds, mu, h, r, q⟩ => q st H mu r (.refl H)⟩
/-- e; -/
def sExpr (fe : DS → LH → Out SV) : SF := fun ds h => (fe ds h).so ds fun _ h1 => .nx ds h1
theorem pm_expr (he : EM X W e fe) (hs : swapsWith e none pos.line X.env = pure false := by rfl) : PM X W mu0 (.Expr e pos) (sExpr fe) := ⟨PS.imp (ps_expr he.pe hs) fun E st H ⟨ds, mu, h, r, q⟩ =>
  ⟨ds, mu, h, r.rs, r.rh, LS.expr r q fun a h1 v H1 mu1 _ e1 r1 _ q1 => q1 st H1 mu1 r1 (.refl _)⟩⟩
/-- return e -/
def plainS : SV → Bool
  | .val _ => true
  | .ref _ => true
  | _ => false
def sRet (fe : DS → LH → Out SV) : SF := fun ds h => (fe ds h).so ds fun s h1 => iffS (plainS s = true) (.rt s h1)
theorem relR_of {K : PySem.W.Frag} {H0 H : Hp} {mu : List Addr} {v : V} {s : SV} (p : plainS s = true) (r : RelSV K H mu v s) : RelR K H0 H mu v s := by
  cases s <;> first | exact r | cases p
theorem pm_ret (he : EM X W e fe) : PM X W mu0 (.Return (some e) pos) (sRet fe) := ⟨PS.imp (ps_ret he.pe) fun E st H ⟨ds, mu, h, r, q⟩ =>
  ⟨ds, mu, h, r.rs, r.rh, LS.expr r q fun s h1 v H1 mu1 _ e1 r1 rv q1 => by
    obtain ⟨p, q2⟩ := q1.iff
    exact q2 v H1 mu1 r1.ext r1.rh (relR_of p rv)⟩⟩
/-- .. a new list as one's own -/
def sRetF (fl : DS → LH → Out (List D)) : SF := fun ds h => (fl ds h).so ds fun l h1 => .rt (.own l) h1
theorem pm_retF {fl : DS → LH → Out (List D)} (he : FM X W e fl) : PM X W mu0 (.Return (some e) pos) (sRetF fl) := ⟨PS.imp (ps_ret he.pe) fun E st H ⟨ds, mu, h, r, q⟩ =>
  ⟨ds, mu, h, r.rs, r.rh, LS.expr r q fun s h1 v H1 mu1 _ e1 r1 rv q1 => by
    obtain ⟨a, xs, rfl, n, m, e, rr⟩ := rv
    refine q1 _ H1 mu1 r1.ext r1.rh ⟨a, xs, rfl, ?_, m, e, rr⟩
    cases z : X.H_0 a with
    | none => rfl
    | some u => exact absurd n (r.ext.live a (by rw [z]; simp))⟩⟩
def sRetN : SF := fun _ h => .rt (.val .none) h
theorem pm_retN : PM X W mu0 (.Return none pos) sRetN := ⟨PS.imp ps_retN fun E st H ⟨ds, mu, h, r, q⟩ => q _ H mu r.ext r.rh Rp.non⟩
/-- return of one's own list at a slot -/
def sRetO (i : Nat) : SF := fun ds h => orBadS (match ds[i]? with
  | some (some (.own l)) => some l
  | _ => none) fun l => .rt (.own l) h
theorem own_of {ds : DS} {l : List D} (h : (match ds[i]? with
  | some (some (.own l)) => some l
  | _ => none) = some l) : ds[i]? = some (some (.own l)) := by
  split at h
  · rename_i l' e
    cases h
    exact e
  · cases h
theorem RelF.own {st : L2.St} {ds : DS} {H : Hp} {mu : List Addr} {h : LH} (r : RelF X mu0 st ds H mu h) {l : List D} (e : ds[i]? = some (some (.own l))) : ∃ a xs, st[i]? = some (some (.ref a)) ∧ X.H_0 a = none ∧ H a = some (.lst xs) ∧ a ∉ mu ∧ RpAll X.K H xs l := by
  obtain ⟨v, ev, a, xs, rfl, h1, h2, h3⟩ := r.rs.at_ i _ e (fun _ z => by cases z)
  exact ⟨a, xs, ev, r.fresh i l a e ev, h1, h2, h3⟩
theorem pm_retO (hN : X.N[i]? = some x) (hv : Vis X.env.scope x) (hd : (x == ("__debug__" : Str)) = false := by decide) (hcd : (x == ("__classdict__" : Str)) = false := by decide) : PM X W mu0 (.Return (some (.Name x pos')) pos) (sRetO i) := ⟨PS.imp (ps_ret (pe_var hN hv hd hcd)) fun E st H ⟨ds, mu, h, r, q⟩ => by
  obtain ⟨l, e, q⟩ := q.orBad
  obtain ⟨a, xs, ev, n, hl, nm, rr⟩ := r.own (own_of e)
  exact ⟨_, ev, q _ H mu r.ext r.rh ⟨a, xs, rfl, n, nm, hl, rr⟩⟩⟩
/-- if -/
def sIf (t : DS → LH → Out Bool) (f g : SF) : SF := fun ds h => (t ds h).so ds fun b h1 => match b with
  | true => f ds h1
  | false => g ds h1
theorem pm_if {c : Expr} {a b : List Stmt} (hc : TM X W c ft) (ha : BM X W mu0 a f) (hb : BM X W mu0 b g) : PM X W mu0 (.If c a b pos) (sIf ft f g) := ⟨PS.imp (ps_if hc.pt ha.pss hb.pss) fun E st H ⟨ds, mu, h, r, q⟩ =>
  ⟨ds, mu, h, r.rs, r.rh, LS.expr r q fun b h1 v H1 mu1 _ e1 r1 rv q1 => by
    subst rv
    cases v with
    | true => exact iteT ⟨ds, mu1, h1, r1, q1⟩
    | false => exact iteF ⟨ds, mu1, h1, r1, q1⟩⟩⟩

/-! ### names stored -/
/-- what a slot may hold as data -/
def storeB : SV → Bool
  | .val _ => true
  | .ref _ => true
  | .scr _ => true
  | _ => false
theorem RelF.set {st : L2.St} {ds : DS} {H : Hp} {mu : List Addr} {h : LH} (r : RelF X mu0 st ds H mu h) {v : V} {s : SV} (p : storeB s = true) (rv : RelSV X.K H mu v s) : RelF X mu0 (st.set i (some v)) (ds.set i (some s)) H mu h where
  rs := r.rs.set i rv (fun x z => by subst z; cases p)
  rh := r.rh
  ext := r.ext
  fresh := fun j l a h1 h2 => by
    by_cases e : i = j
    · subst e
      by_cases hi : i < ds.length
      · rw [List.getElem?_set_self hi] at h1; cases h1; cases p
      · rw [List.getElem?_eq_none (by simpa using hi)] at h1; cases h1
    · rw [List.getElem?_set_ne e] at h1 h2
      exact r.fresh j l a h1 h2
  apart := fun j k l l' a hne h1 h2 h3 => by
    have aux : ∀ {j : Nat} {l : List D}, (ds.set i (some s))[j]? = some (some (.own l)) → i ≠ j := fun {j l} h1 z => by
      subst z
      by_cases hi : i < ds.length
      · rw [List.getElem?_set_self hi] at h1; cases h1; cases p
      · rw [List.getElem?_eq_none (by simpa using hi)] at h1; cases h1
    have e1 := aux h1
    have e2 := aux h2
    rw [List.getElem?_set_ne e1] at h1 h3
    rw [List.getElem?_set_ne e2] at h2 ⊢
    exact r.apart j k l l' a hne h1 h2 h3
def sSet (i : Nat) (fe : DS → LH → Out SV) : SF := fun ds h => (fe ds h).so ds fun s h1 => iffS (storeB s = true) (.nx (ds.set i (some s)) h1)
theorem pm_set {e : Expr} {pos' : Pos} (hN : X.N.Nodup) (hi : X.N[i]? = some x) (hx : Loc X.env.scope x) (he : EM X W e fe) (hs : swapsWith e (some (.Name x pos')) pos.line X.env = pure false := by rfl) (hf : X.fn x = true ∨ X.env.scope.names.lookup x = some .local := by first | exact .inl rfl | exact .inr rfl | assumption) :
    PM X W mu0 (.Assign [.Name x pos'] e pos) (sSet i fe) := ⟨PS.imp (ps_set hN hi hx he.pe hs hf) fun E st H ⟨ds, mu, h, r, q⟩ =>
  ⟨ds, mu, h, r.rs, r.rh, LS.expr r q fun s h1 v H1 mu1 _ e1 r1 rv q1 => by
    obtain ⟨p, q2⟩ := q1.iff
    exact q2 _ H1 mu1 (r1.set p rv) (.refl _)⟩⟩
/-- a new list as one's own -/
theorem RelF.setOwn {st : L2.St} {ds : DS} {H : Hp} {mu : List Addr} {h : LH} (r : RelF X mu0 st ds H mu h) {a : Addr} {xs : List V} {l : List D} (n : X.H_0 a = none) (na : ∀ (j : Nat) (l' : List D), ds[j]? = some (some (SV.own l')) → st[j]? ≠ some (some (V.ref a))) (e : H a = some (.lst xs)) (nm : a ∉ mu) (rr : RpAll X.K H xs l) :
    RelF X mu0 (st.set i (some (.ref a))) (ds.set i (some (.own l))) H mu h where
  rs := r.rs.set i (s := .own l) ⟨a, xs, rfl, e, nm, rr⟩ (fun x z => by cases z)
  rh := r.rh
  ext := r.ext
  fresh := fun j l' b h1 h2 => by
    by_cases e : i = j
    · subst e
      by_cases hi : i < ds.length
      · rw [List.getElem?_set_self (by rw [r.rs.len]; exact hi)] at h2; cases h2; exact n
      · rw [List.getElem?_eq_none (by simpa using hi)] at h1; cases h1
    · rw [List.getElem?_set_ne e] at h1 h2
      exact r.fresh j l' b h1 h2
  apart := fun j k l1 l2 b hne h1 h2 h3 => by
    by_cases ej : i = j
    · subst ej
      rw [List.getElem?_set_ne hne] at h2 ⊢
      have hi : i < ds.length := by
        by_cases hi : i < ds.length
        · exact hi
        · rw [List.getElem?_eq_none (by simpa using hi)] at h1; cases h1
      rw [List.getElem?_set_self (by rw [r.rs.len]; exact hi)] at h3
      cases h3
      exact na k l2 h2
    · rw [List.getElem?_set_ne ej] at h1 h3
      by_cases ek : i = k
      · subst ek
        intro h4
        have hi : i < ds.length := by
          by_cases hi : i < ds.length
          · exact hi
          · rw [List.getElem?_eq_none (by simpa using hi)] at h2; cases h2
        rw [List.getElem?_set_self (by rw [r.rs.len]; exact hi)] at h4
        cases h4
        exact na j l1 h1 h3
      · rw [List.getElem?_set_ne ek] at h2 ⊢
        exact r.apart j k l1 l2 b hne h1 h2 h3
theorem RelF.newOwn {st : L2.St} {ds : DS} {H H1 : Hp} {mu mu1 : List Addr} {h h1 : LH} (r : RelF X mu0 st ds H mu h) (r1 : RelF X mu0 st ds H1 mu1 h1) {a : Addr} {xs : List V} {l : List D} (n : H a = none) (e : H1 a = some (.lst xs)) (nm : a ∉ mu1) (rr : RpAll X.K H1 xs l) :
    RelF X mu0 (st.set i (some (.ref a))) (ds.set i (some (.own l))) H1 mu1 h1 := by
  refine r1.setOwn ?_ (fun j l' hj hs => ?_) e nm rr
  · cases z : X.H_0 a with
    | none => rfl
    | some u => exact absurd n (r.ext.live a (by rw [z]; simp))
  · obtain ⟨b, ys, eb, _, hb, _, _⟩ := r.own hj
    rw [hs] at eb
    cases eb
    rw [n] at hb; cases hb
def sOwn (i : Nat) (fl : DS → LH → Out (List D)) : SF := fun ds h => (fl ds h).so ds fun l h1 => .nx (ds.set i (some (.own l))) h1
theorem pm_own {e : Expr} {fl : DS → LH → Out (List D)} {pos' : Pos} (hN : X.N.Nodup) (hi : X.N[i]? = some x) (hx : Loc X.env.scope x) (he : FM X W e fl) (hs : swapsWith e (some (.Name x pos')) pos.line X.env = pure false := by rfl) (hf : X.fn x = true ∨ X.env.scope.names.lookup x = some .local := by first | exact .inl rfl | exact .inr rfl | assumption) :
    PM X W mu0 (.Assign [.Name x pos'] e pos) (sOwn i fl) := ⟨PS.imp (ps_set hN hi hx he.pe hs hf) fun E st H ⟨ds, mu, h, r, q⟩ =>
  ⟨ds, mu, h, r.rs, r.rh, LS.expr r q fun l h1 v H1 mu1 _ e1 r1 rv q1 => by
    obtain ⟨a, xs, rfl, n, nm, e, rr⟩ := rv
    exact q1 _ H1 mu1 (r.newOwn r1 n e nm rr) (.refl _)⟩⟩
/-- name = [..] on one line -/
theorem pm_ownLc {y : Str} {py : Pos} {elt tg iter : Expr} {ifs : List Expr} {scope : Scope} {own : List (Str × Nat)} {spos : Pos} {fi : DS → LH → Out (List D)} {ftg : D → DS → Option DS} {tt : DS → LH → Out Bool} {fe : DS → LH → Out SV} {is : List Nat}
    (hc : X.calm = true) (hN : X.N.Nodup) (hy : X.N[i]? = some y) (hyl : X.env.scope.names.lookup y = some .local)
    (hsw : swapsWith (.ListComp elt [⟨tg, iter, ifs, 0⟩] scope pos) (some (.Name y py)) spos.line X.env = pure true) (hi : IM X W tg iter fi) (ok : BlkOk X.N X.env.scope scope own)
    (hg : ∀ (s : Shared) (H : Hp) (C : Addr) (cl : List (Str × Addr)) (fp : List Addr), GM (X.blk s H scope (compEnvC scope cl C X.env) fp) tg is ftg) (ht : ∀ (s : Shared) (H : Hp) (C : Addr) (cl : List (Str × Addr)) (fp : List Addr), SM (X.blk s H scope (compEnvC scope cl C X.env) fp) NW ifs tt)
    (he : ∀ (s : Shared) (H : Hp) (C : Addr) (cl : List (Str × Addr)) (fp : List Addr), EM (X.blk s H scope (compEnvC scope cl C X.env) fp) NW elt fe) (hsub : ∀ i ∈ is, i ∈ own.map (·.2)) (hs : ∀ x, foldedSetIterable iter X.env x = pure x := by intro _; rfl) :
    PM X W mu0 (.Assign [.Name y py] (.ListComp elt [⟨tg, iter, ifs, 0⟩] scope pos) spos) (sOwn i (fLc fi ftg tt fe (own.map (·.2)))) :=
  ⟨PS.imp (ps_setLc hc hN hy hyl hsw hi.pi ok (fun s H C cl fp => (hg s H C cl fp).pg) (fun s H C cl fp => (ht s H C cl fp).pts) (fun s H C cl fp => (he s H C cl fp).pe) hs) fun E st H ⟨ds, mu, h, r, q⟩ =>
    LF.comp (W := W) hsub (fun _ _ _ q => q) (fun _ _ _ _ q => q) (fun _ _ _ q => q) (fun _ _ _ q => q) st H (fun x H1 => gName i x st H1 E.nx) ⟨ds, mu, h, r.rs, r.rh, LS.expr r q fun l h1 v H1 mu1 _ e1 r1 rv q1 => by
      obtain ⟨a, xs, rfl, n, nm, e, rr⟩ := rv
      exact q1 _ H1 mu1 (r.newOwn r1 n e nm rr) (.refl _)⟩⟩
/-- a slot's own list becomes data, ahead of a statement -/
def sFz (i : Nat) (f : SF) : SF := fun ds h => orBadS (match ds[i]? with
  | some (some (.own l)) => some l
  | _ => none) fun l => f (ds.set i (some (.val (.list l)))) h
theorem RelF.frz {st : L2.St} {ds : DS} {H : Hp} {mu : List Addr} {h : LH} (r : RelF X mu0 st ds H mu h) {l : List D} {a : Addr} {xs : List V} {o : Obj} (e : ds[i]? = some (some (.own l))) (ev : st[i]? = some (some (.ref a))) (n : X.H_0 a = none) (hl : H a = some (.lst xs)) (nm : a ∉ mu) (rr : RpAll X.K H xs l) :
    RelF X mu0 st (ds.set i (some (.val (.list l)))) (upd H a (.frz o (.lst xs))) mu h := by
  have mo : Mono H (upd H a (.frz o (.lst xs))) := mono_frz hl
  have hi : i < ds.length := (List.getElem?_eq_some_iff.mp e).1
  have other : ∀ {j : Nat} {s : SV}, i ≠ j → ds[j]? = some (some s) → ∀ {v : V}, st[j]? = some (some v) → RelSV X.K H mu v s → RelSV X.K (upd H a (.frz o (.lst xs))) mu v s := fun {j s} hne hj {v} hv rv => by
    cases s with
    | val d => exact rv.mono mo
    | ref k => exact rv
    | scr ns => obtain ⟨b, q, z⟩ := rv; exact ⟨b, q, mo.fzk z⟩
    | exc x => exact rv
    | own l' =>
      obtain ⟨b, ys, rfl, hb, nb, rb⟩ := rv
      have hne' : b ≠ a := fun z => by subst z; exact r.apart i j l l' b hne e hj ev hv
      exact ⟨b, ys, rfl, by rw [upd_ne hne']; exact hb, nb, rb.mono mo⟩
  have noown : ∀ {j : Nat} {l' : List D}, (ds.set i (some (.val (.list l))))[j]? = some (some (.own l')) → i ≠ j := fun {j l'} hj z => by
    subst z
    rw [List.getElem?_set_self hi] at hj; cases hj
  refine ⟨⟨by rw [List.length_set]; exact r.rs.len, fun j s hj hn => ?_, fun j x hj => ?_⟩, r.rh.frz nm hl, r.ext.frz n hl, fun j l' b h1 h2 => ?_, fun j k l1 l2 b hne h1 h2 h3 => ?_⟩
  · by_cases z : i = j
    · subst z
      rw [List.getElem?_set_self hi] at hj
      cases hj
      exact ⟨_, ev, .lst ⟨o, upd_same⟩ (rr.mono mo)⟩
    · rw [List.getElem?_set_ne z] at hj
      obtain ⟨v, hv, rv⟩ := r.rs.at_ j s hj hn
      exact ⟨v, hv, other z hj hv rv⟩
  · have z : i ≠ j := fun z => by subst z; rw [List.getElem?_set_self hi] at hj; cases hj
    rw [List.getElem?_set_ne z] at hj
    obtain ⟨c, oe, h1, h2, h3, h4⟩ := r.rs.ex j x hj
    refine ⟨c, oe, h1, h2, h3, ?_⟩
    rcases h4 with h4 | ⟨d, fs, q1, q2, q3, q4⟩
    · exact .inl h4
    · exact .inr ⟨d, fs, q1, by rw [upd_ne (ne_of q2 hl (by intro z; cases z))]; exact q2, q3, q4.mono mo⟩
  · have z := noown h1
    rw [List.getElem?_set_ne z] at h1
    exact r.fresh j l' b h1 h2
  · have z1 := noown h1
    have z2 := noown h2
    rw [List.getElem?_set_ne z1] at h1
    rw [List.getElem?_set_ne z2] at h2
    exact r.apart j k l1 l2 b hne h1 h2 h3
theorem pm_fz (h : PM X W mu0 s f) : PM X W mu0 s (sFz i f) := ⟨⟨fun pins sh st H E I ⟨ds, mu, hh, r, q⟩ => by
  obtain ⟨l, e, q⟩ := q.orBad
  have e := own_of e
  obtain ⟨a, xs, ev, n, hl, nm, rr⟩ := r.own e
  obtain ⟨o, J⟩ := inv_frzL I hl
  exact h.ps.run pins sh st _ E J ⟨_, mu, hh, r.frz e ev n hl nm rr, q.mono (mono_frz hl)⟩⟩⟩
end
end U
/-! U8: lists changed, loops, raise, defs. -/
namespace U
open PySem PySem.Spec PyProof.Rows L2
section
variable {X : Cx} {W : WX} {mu0 : List Addr} {s : Stmt} {rest : List Stmt} {f g : SF} {a b e o : Expr} {fe fa fo fi : DS → LH → Out SV} {ft : DS → LH → Out Bool} {pos pos' apos : Pos} {i n : Nat} {x : Str} {es : List Expr} {fs : DS → LH → Out (List SV)}

/-! ### one's own list, changed -/
def ownAt (ds : DS) (i : Nat) : Option (List D) := match ds[i]? with
  | some (some (.own l)) => some l
  | _ => none
theorem ownAt_of {ds : DS} {l : List D} (h : ownAt ds i = some l) : ds[i]? = some (some (.own l)) := own_of h
theorem RelF.chg {st : L2.St} {ds : DS} {H : Hp} {mu : List Addr} {h : LH} (r : RelF X mu0 st ds H mu h) {l l' : List D} {a : Addr} {xs ys : List V} (e : ds[i]? = some (some (.own l))) (ev : st[i]? = some (some (.ref a))) (n : X.H_0 a = none) (hl : H a = some (.lst xs)) (nm : a ∉ mu) (rr : RpAll X.K H ys l') :
    RelF X mu0 st (ds.set i (some (.own l'))) (upd H a (.lst ys)) mu h := by
  have mo : Mono H (upd H a (.lst ys)) := mono_setL hl
  have hi : i < ds.length := (List.getElem?_eq_some_iff.mp e).1
  have other : ∀ {j : Nat} {s : SV}, i ≠ j → ds[j]? = some (some s) → ∀ {v : V}, st[j]? = some (some v) → RelSV X.K H mu v s → RelSV X.K (upd H a (.lst ys)) mu v s := fun {j s} hne hj {v} hv rv => by
    cases s with
    | val d => exact rv.mono mo
    | ref k => exact rv
    | scr ns => obtain ⟨b, q, z⟩ := rv; exact ⟨b, q, mo.fzk z⟩
    | exc x => exact rv
    | own l' =>
      obtain ⟨b, zs, rfl, hb, nb, rb⟩ := rv
      have hne' : b ≠ a := fun z => by subst z; exact r.apart i j l l' b hne e hj ev hv
      exact ⟨b, zs, rfl, by rw [upd_ne hne']; exact hb, nb, rb.mono mo⟩
  refine ⟨⟨by rw [List.length_set]; exact r.rs.len, fun j s hj hn => ?_, fun j x hj => ?_⟩, r.rh.setL nm hl, r.ext.setL n hl, fun j l' b h1 h2 => ?_, fun j k l1 l2 b hne h1 h2 h3 => ?_⟩
  · by_cases z : i = j
    · subst z
      rw [List.getElem?_set_self hi] at hj
      cases hj
      exact ⟨_, ev, a, ys, rfl, upd_same, nm, rr.mono mo⟩
    · rw [List.getElem?_set_ne z] at hj
      obtain ⟨v, hv, rv⟩ := r.rs.at_ j s hj hn
      exact ⟨v, hv, other z hj hv rv⟩
  · have z : i ≠ j := fun z => by subst z; rw [List.getElem?_set_self hi] at hj; cases hj
    rw [List.getElem?_set_ne z] at hj
    obtain ⟨c, oe, h1, h2, h3, h4⟩ := r.rs.ex j x hj
    refine ⟨c, oe, h1, h2, h3, ?_⟩
    rcases h4 with h4 | ⟨d, fs, q1, q2, q3, q4⟩
    · exact .inl h4
    · exact .inr ⟨d, fs, q1, by rw [upd_ne (ne_of q2 hl (by intro z; cases z))]; exact q2, q3, q4.mono mo⟩
  · by_cases z : i = j
    · subst z; rw [ev] at h2; cases h2; exact n
    · rw [List.getElem?_set_ne z] at h1
      exact r.fresh j l' b h1 h2
  · by_cases z1 : i = j
    · subst z1
      rw [List.getElem?_set_ne hne] at h2
      exact r.apart i k l l2 b hne e h2 h3
    · rw [List.getElem?_set_ne z1] at h1
      by_cases z2 : i = k
      · subst z2
        exact r.apart j i l1 l b hne h1 e h3
      · rw [List.getElem?_set_ne z2] at h2
        exact r.apart j k l1 l2 b hne h1 h2 h3
/-- x.append(e) -/
def sApp (i : Nat) (fe : DS → LH → Out SV) : SF := fun ds h => orBadS (ownAt ds i) fun l => (fe ds h).so ds fun s h1 => orBadS (asVal s) fun d => iffS (l.length < sizeLine) (.nx (ds.set i (some (.own (l ++ [d])))) h1)
theorem pm_app (hN : X.N[i]? = some x) (hv : Vis X.env.scope x) (he : EM X W e fe) {p0 p1 p2 p3 : Pos} (hd : (x == ("__debug__" : Str)) = false := by decide) (hcd : (x == ("__classdict__" : Str)) = false := by decide)
    (hbase : attributeBase (.Name x p0) "append" X.env (eval (.Name x p0) X.env) = eval (.Name x p0) X.env := by rfl)
    (hfew : ((backTo p2 (starEach [e] X.env)).all (fun x => !x.1) && (backToKw p2 (keywordEach [] X.env)).all (fun x => x.1.isSome)
      && decide ([e].length + ([] : List Keyword).length + (if ([] : List Keyword).isEmpty then 0 else 1) < 30)) = true := by rfl)
    (hline : (p1.endLine == p2.line) = true := by rfl) (hs : starEach [e] X.env = (false, eval e X.env) :: starEach [] X.env := by rfl) (hplain : (backTo p2 (starEach [] X.env)).any (·.1) = false := by rfl)
    (hsw : swapsWith (.Call (.Attribute (.Name x p0) "append" p1) [e] [] p2) none p3.line X.env = pure false := by rfl) :
    PM X W mu0 (.Expr (.Call (.Attribute (.Name x p0) "append" p1) [e] [] p2) p3) (sApp i fe) := by
  refine ⟨PS.imp (ps_expr (pe_bm PySem.F.plainAttrs_list PySem.F.slot_list_append PySem.F.type_list_append (mt_append : MtR X "list.append" rAppend) (pe_var hN hv hd hcd) (pa_cons he.pe pa_nil hs) hbase hfew hline hs hplain) hsw) fun E st H ⟨ds, mu, h, r, q⟩ => ?_⟩
  obtain ⟨l, el, q⟩ := q.orBad
  have el := ownAt_of el
  obtain ⟨a, xs, ev, n, hl, nm, rr⟩ := r.own el
  refine ⟨_, ev, .inl ⟨rfl, _, .inl (.inl hl)⟩, ds, mu, h, r.rs, r.rh, LS.expr r q fun s h1 v H1 mu1 _ e1 r1 rv q1 => ?_⟩
  obtain ⟨d, ed, q2⟩ := q1.orBad
  obtain ⟨hz, q3⟩ := q2.iff
  have ed := asVal_of ed
  subst ed
  obtain ⟨a', ys, ev', n', hl', nm', rr'⟩ := r1.own el
  rw [ev] at ev'
  cases ev'
  exact ⟨a, ys, v, rfl, rfl, hl', by rw [rr'.length]; exact hz, q3 _ _ mu1 (r1.chg el ev n hl' nm' (rr'.append (.cons rv .nil))) (mono_setL hl')⟩
def rExtR : V → List V → Hp → VK → Prop := fun x vs H Q => ∃ l b xs zs, x = .ref l ∧ vs = [.ref b] ∧ H l = some (.lst xs) ∧ Rd H b (.lst zs) ∧ xs.length + zs.length ≤ sizeLine ∧ Q .non (upd H l (.lst (xs ++ zs)))
theorem mt_extR : MtM X "list.extend" rExtR := by
  intro pins s st H x vs v us Q I rx rv h
  obtain ⟨l, b, xs, zs, rfl, rfl, hH, hB, hz, q⟩ := h
  cases rx
  obtain ⟨u, rfl, ru⟩ := rv.one
  cases ru
  obtain ⟨z, its, n, r, hl, e⟩ := I.lstM hH
  obtain ⟨z2, its2, n2, r2, hl2, e2⟩ := Inv.lstR I hB
  have hsz : its.toArray.size + its2.toArray.size ≤ sizeLine := by rw [List.size_toArray, List.size_toArray]; omega
  have hlong : ¬ (!its.toArray.isEmpty && Builtin.List.listTooLong (its.toArray.size + its2.toArray.size)) = true := by
    rw [notLongL hsz, Bool.and_false]
    exact Bool.false_ne_true
  refine call_meets F.slot_list_extend ⟨_, e, rfl⟩ F.entry_list_extend (F.args_list_extend_2 _ _)
    (AutoSeq1.list_extend_list_list_0 l its.toArray n b its2.toArray n2 hlong (by rw [List.size_toArray]; omega) (by omega)) ⟨e, e2, ?_⟩
  refine ⟨.non, _, I.lset (its' := its ++ its2) hH e (by simp) (r.append r2) ?_, rfl, q⟩
  rw [List.length_append]
  omega
/-- x.extend(e) -/
def sExt (i : Nat) (fe : DS → LH → Out SV) : SF := fun ds h => orBadS (ownAt ds i) fun l => (fe ds h).so ds fun s h1 => orBadS (asLst s) fun l2 => iffS (l.length + l2.length ≤ sizeLine) (.nx (ds.set i (some (.own (l ++ l2)))) h1)
theorem pm_ext (hN : X.N[i]? = some x) (hv : Vis X.env.scope x) (he : EM X W e fe) {p0 p1 p2 p3 : Pos} (hd : (x == ("__debug__" : Str)) = false := by decide) (hcd : (x == ("__classdict__" : Str)) = false := by decide)
    (hbase : attributeBase (.Name x p0) "extend" X.env (eval (.Name x p0) X.env) = eval (.Name x p0) X.env := by rfl)
    (hfew : ((backTo p2 (starEach [e] X.env)).all (fun x => !x.1) && (backToKw p2 (keywordEach [] X.env)).all (fun x => x.1.isSome)
      && decide ([e].length + ([] : List Keyword).length + (if ([] : List Keyword).isEmpty then 0 else 1) < 30)) = true := by rfl)
    (hline : (p1.endLine == p2.line) = true := by rfl) (hs : starEach [e] X.env = (false, eval e X.env) :: starEach [] X.env := by rfl) (hplain : (backTo p2 (starEach [] X.env)).any (·.1) = false := by rfl)
    (hsw : swapsWith (.Call (.Attribute (.Name x p0) "extend" p1) [e] [] p2) none p3.line X.env = pure false := by rfl) :
    PM X W mu0 (.Expr (.Call (.Attribute (.Name x p0) "extend" p1) [e] [] p2) p3) (sExt i fe) := by
  refine ⟨PS.imp (ps_expr (pe_bm PySem.F.plainAttrs_list PySem.F.slot_list_extend PySem.F.type_list_extend (mt_extR : MtR X "list.extend" rExtR) (pe_var hN hv hd hcd) (pa_cons he.pe pa_nil hs) hbase hfew hline hs hplain) hsw) fun E st H ⟨ds, mu, h, r, q⟩ => ?_⟩
  obtain ⟨l, el, q⟩ := q.orBad
  have el := ownAt_of el
  obtain ⟨a, xs, ev, n, hl, nm, rr⟩ := r.own el
  refine ⟨_, ev, .inl ⟨rfl, _, .inl (.inl hl)⟩, ds, mu, h, r.rs, r.rh, LS.expr r q fun s h1 v H1 mu1 _ e1 r1 rv q1 => ?_⟩
  obtain ⟨l2, ed, q1⟩ := q1.orBad
  obtain ⟨hz, q1⟩ := q1.iff
  obtain ⟨b, zs, rfl, hb, rb⟩ := asLst_rel ed rv
  obtain ⟨a', ys, ev', n', hl', nm', rr'⟩ := r1.own el
  rw [ev] at ev'
  cases ev'
  exact ⟨a, b, ys, zs, rfl, rfl, hl', hb, by rw [rr'.length, rb.length]; exact hz, q1 _ _ mu1 (r1.chg el ev n hl' nm' (rr'.append rb)) (mono_setL hl')⟩
/-- x += e, ints -/
def sAug (i : Nat) (fe : DS → LH → Out SV) : SF := fun ds h => orBadS ((slot ds i).bind asInt) fun k => (fe ds h).so ds fun s h1 => orBadS (asInt s) fun j => .nx (ds.set i (some (.val (.int (k + j))))) h1
theorem pm_aug (hN : X.N.Nodup) (hi : X.N[i]? = some x) (hx : Loc X.env.scope x) (he : EM X W e fe) (hf : X.fn x = true ∨ X.env.scope.names.lookup x = some .local := by first | exact .inl rfl | exact .inr rfl | assumption) :
    PM X W mu0 (.AugAssign (.Name x pos') .Add e pos) (sAug i fe) := ⟨PS.imp (ps_aug hN hi hx he.pe ip_add hf) fun E st H ⟨ds, mu, h, r, q⟩ => by
  obtain ⟨k, ek, q⟩ := q.orBad
  cases es : slot ds i with
  | none => rw [es] at ek; cases ek
  | some sv =>
    rw [es] at ek
    have ek : asInt sv = some k := ek
    obtain ⟨e0, n0⟩ := slot_of es
    obtain ⟨v, ev, rv⟩ := r.rs.at_ i sv e0 n0
    have := asInt_rel ek rv
    subst this
    refine ⟨_, ev, ds, mu, h, r.rs, r.rh, LS.expr r q fun s h1 u H1 mu1 _ e1 r1 ru q1 => ?_⟩
    obtain ⟨j, ej, q1⟩ := q1.orBad
    exact ⟨k, j, rfl, asInt_rel ej ru, q1 _ H1 mu1 (r1.set rfl (.int _)) (.refl _)⟩⟩
/-- a, b = e -/
def sTg (ftg : D → DS → Option DS) (fe : DS → LH → Out SV) : SF := fun ds h => (fe ds h).so ds fun s h1 => orBadS (asVal s) fun d => orBadS (ftg d ds) fun ds' => .nx ds' h1
theorem RelF.tg {is : List Nat} {st st' : L2.St} {ds ds' : DS} {H : Hp} {mu : List Addr} {h : LH} (r : RelF X mu0 st ds H mu h) (rs : RelS X.K X.mg X.pn H mu st' ds') (t : TgOk is st ds st' ds') : RelF X mu0 st' ds' H mu h := by
  have aux : ∀ {j : Nat} {l : List D}, ds'[j]? = some (some (.own l)) → ds[j]? = some (some (.own l)) ∧ st'[j]? = st[j]? := fun {j l} hj => by
    have nj : j ∉ is := fun z => t.inn j z l hj
    obtain ⟨x1, x2⟩ := t.out j nj
    rw [x2] at hj
    exact ⟨hj, x1⟩
  refine ⟨rs, r.rh, r.ext, fun j l a h1 h2 => ?_, fun j k l l' a hne h1 h2 h3 => ?_⟩
  · obtain ⟨y1, y2⟩ := aux h1
    rw [y2] at h2
    exact r.fresh j l a y1 h2
  · obtain ⟨y1, y2⟩ := aux h1
    obtain ⟨z1, z2⟩ := aux h2
    rw [y2] at h3
    rw [z2]
    exact r.apart j k l l' a hne y1 z1 h3
theorem pm_tg {tg : Expr} {is : List Nat} {ftg : D → DS → Option DS} (he : EM X W e fe) (hg : GM X tg is ftg) (hs : swapsWithSole [tg] e pos.line X.env = pure false := by rfl) (hw : swappedStores [tg] e X.env = pure none := by rfl)
    (h1 : (assignEach [tg] X.env).map (·.2) = [assign tg X.env] := by rfl) : PM X W mu0 (.Assign [tg] e pos) (sTg ftg fe) := ⟨PS.imp (ps_asg he.pe hg.pg hs hw h1) fun E st H ⟨ds, mu, h, r, q⟩ =>
  ⟨ds, mu, h, r.rs, r.rh, LS.expr r q fun s h1 v H1 mu1 _ e1 r1 rv q1 => by
    obtain ⟨d, ed, q2⟩ := q1.orBad
    obtain ⟨ds', et, q3⟩ := q2.orBad
    have ed := asVal_of ed
    subst ed
    exact ⟨d, ds, mu1, ds', r1.rs, rv, et, fun st' rs' t => q3 st' H1 mu1 (r1.tg rs' t) (.refl _)⟩⟩⟩

/-! ### loops -/
def forL (ftg : D → DS → Option DS) (fb : SF) : List D → DS → LH → SO
  | [], ds, h => .nx ds h
  | x :: r, ds, h => orBadS (ftg x ds) fun ds1 => match fb ds1 h with
    | .nx ds2 h2 => forL ftg fb r ds2 h2
    | .ct ds2 h2 => forL ftg fb r ds2 h2
    | .bk ds2 h2 => .nx ds2 h2
    | o => o
def sFor (fi : DS → LH → Out (List D)) (ftg : D → DS → Option DS) (fb : SF) : SF := fun ds h => (fi ds h).so ds fun items h1 => forL ftg fb items ds h1
theorem pm_for {tg iter : Expr} {body : List Stmt} {is : List Nat} {fi : DS → LH → Out (List D)} {ftg : D → DS → Option DS} {fb : SF} (hp : PassesOwn (model X.prog X.w) X.A X.env X.xe) (hc : X.calm = true) (hi : IM X W tg iter fi) (hg : GM X tg is ftg) (hb : BM X W mu0 body fb)
    (hs : ∀ x, foldedSetIterable iter X.env x = pure x := by intro _; rfl) : PM X W mu0 (.For tg iter body [] pos) (sFor fi ftg fb) := ⟨PS.imp (ps_for hp hc hi.pi hg.pg hb.pss hs) fun E st H ⟨ds, mu, h, r, q⟩ =>
  ⟨ds, mu, h, r.rs, r.rh, LS.expr r q fun items h1 J H1 mu1 _ e1 r1 sv q1 => by
    refine ⟨fun i m st' H' => m = items.length - i ∧ i ≤ items.length ∧ ∃ ds' mu' h', RelF X mu0 st' ds' H' mu' h' ∧ Mono H1 H' ∧ AfterS X W mu0 H1 (forL ftg fb (items.drop i) ds' h') E,
      ⟨items.length, by simp, by simp, ds, mu1, h1, r1, .refl _, by rw [List.drop_zero]; exact q1⟩, ?_⟩
    rintro i m st2 H2 ⟨rfl, hi, ds2, mu2, h2, r2, m2, q2⟩
    obtain ⟨sgo, sst⟩ := sv i H2 m2
    by_cases hlt : i < items.length
    · right
      have hx : items[i]? = some items[i] := List.getElem?_eq_getElem hlt
      obtain ⟨go, yl⟩ := sgo _ hx
      refine ⟨go, fun st' H' => ∃ ds' mu' h', RelF X mu0 st' ds' H' mu' h' ∧ Mono H1 H' ∧ AfterS X W mu0 H1 (forL ftg fb (items.drop (i + 1)) ds' h') E, fun st' H' hn => ⟨items.length - (i + 1), by omega, rfl, hlt, hn⟩, fun v H3 hy => ?_⟩
      obtain ⟨e3, rv⟩ := yl v H3 hy
      rw [List.drop_eq_getElem_cons hlt] at q2
      unfold forL at q2
      obtain ⟨ds3, et, q2⟩ := q2.orBad
      have e3' : Ext mu2 H2 mu2 H3 := ⟨e3.mono, fun b u q _ => e3.keep b u q (by simp), ⟨[], by simp, by simp⟩, e3.live⟩
      have rh3 : RelH X.K H3 mu2 h2 := r2.rh.same e3' fun a _ u q => e3.keep a u q (by simp)
      have r3 := r2.step e3' rh3
      have m3 := m2.trans e3.mono
      refine ⟨items[i], ds2, mu2, ds3, r3.rs, rv, et, fun st4 rs4 t4 => ⟨ds3, mu2, h2, r3.tg rs4 t4, ?_⟩⟩
      cases eb : fb ds3 h2 with
      | nx ds5 h5 =>
        rw [eb] at q2
        exact fun st5 H5 mu5 r5 m5 => ⟨ds5, mu5, h5, r5, m3.trans m5, q2⟩
      | ct ds5 h5 =>
        rw [eb] at q2
        exact fun st5 H5 mu5 r5 m5 => ⟨ds5, mu5, h5, r5, m3.trans m5, q2⟩
      | bk ds5 h5 =>
        rw [eb] at q2
        exact fun st5 H5 mu5 r5 m5 => q2 st5 H5 mu5 r5 (m3.trans m5)
      | rt s5 h5 => rw [eb] at q2; exact q2
      | exc x5 ds5 h5 => rw [eb] at q2; exact fun c dd st5 H5 mu5 r5 m5 rx => q2 c dd st5 H5 mu5 r5 (m3.trans m5) rx
      | bad => rw [eb] at q2; exact q2
    · left
      have ei : i = items.length := by omega
      subst ei
      refine ⟨sst (Nat.le_refl _), ?_⟩
      rw [List.drop_length] at q2
      exact q2 st2 H2 mu2 r2 m2⟩⟩
def whileN (t : DS → LH → Out Bool) (fb : SF) : Nat → DS → LH → SO
  | 0, _, _ => .bad
  | n + 1, ds, h => (t ds h).so ds fun b h1 => match b with
    | false => .nx ds h1
    | true => match fb ds h1 with
      | .nx ds2 h2 => whileN t fb n ds2 h2
      | .ct ds2 h2 => whileN t fb n ds2 h2
      | .bk ds2 h2 => .nx ds2 h2
      | o => o
theorem pm_while {c : Expr} {body : List Stmt} {fb : SF} (N : Nat) (hp : PassesOwn (model X.prog X.w) X.A X.env X.xe) (hc : TM X W c ft) (hb : BM X W mu0 body fb) : PM X W mu0 (.While c body [] pos) (whileN ft fb N) := ⟨PS.imp (ps_while hp hc.pt hb.pss) fun E st H ⟨ds, mu, h, r, q⟩ => by
  refine ⟨fun m st' H' => ∃ ds' mu' h', RelF X mu0 st' ds' H' mu' h' ∧ AfterS X W mu0 H' (whileN ft fb m ds' h') E, ⟨N, ds, mu, h, r, q⟩, ?_⟩
  rintro m st2 H2 ⟨ds2, mu2, h2, r2, q2⟩
  cases m with
  | zero => exact q2.elim
  | succ n =>
    unfold whileN at q2
    refine ⟨ds2, mu2, h2, r2.rs, r2.rh, LS.expr r2 q2 fun b h3 v H3 mu3 _ e3 r3 rv q3 => ?_⟩
    subst rv
    cases v with
    | false => exact iteF (q3 st2 H3 mu3 r3 (.refl _))
    | true =>
      refine iteT ⟨fun st' H' => ∃ ds' mu' h', RelF X mu0 st' ds' H' mu' h' ∧ AfterS X W mu0 H' (whileN ft fb n ds' h') E, fun st' H' hn => ⟨n, Nat.lt_succ_self n, hn⟩, ds2, mu3, h3, r3, ?_⟩
      have q3 : AfterS X W mu0 H3 (match fb ds2 h3 with
        | .nx ds2 h2 => whileN ft fb n ds2 h2
        | .ct ds2 h2 => whileN ft fb n ds2 h2
        | .bk ds2 h2 => .nx ds2 h2
        | o => o) E := q3
      cases eb : fb ds2 h3 with
      | nx ds5 h5 =>
        rw [eb] at q3
        exact fun st5 H5 mu5 r5 m5 => ⟨ds5, mu5, h5, r5, AfterS.mono (show AfterS X W mu0 H3 (whileN ft fb n ds5 h5) E from q3) m5⟩
      | ct ds5 h5 =>
        rw [eb] at q3
        exact fun st5 H5 mu5 r5 m5 => ⟨ds5, mu5, h5, r5, AfterS.mono (show AfterS X W mu0 H3 (whileN ft fb n ds5 h5) E from q3) m5⟩
      | bk ds5 h5 => rw [eb] at q3; exact q3
      | rt s5 h5 => rw [eb] at q3; exact q3
      | exc x5 ds5 h5 => rw [eb] at q3; exact q3
      | bad => rw [eb] at q3; exact q3⟩

/-! ### raise -/
def sRaise (x : Str) : SF := fun ds h => .exc ⟨x, []⟩ ds h
theorem pm_raise {C : Addr} {m : Str} {j : Nat} {p p2 pos pos2 : Pos} {bmB : List Value} {B newId initId : String} (hc : X.calm = true) (tk : Takes X W) (F : ExcBaseFacts B newId initId bmB) (q : PySem.W.excIn X.K C bmB newId = true) (gC : X.mg x = some (.ref C)) (kC : PySem.W.keepIn X.K (.ref C) = true) (r : Raises X (.ref C)) (hg : Gl X x)
    (hdb : (x == ("__debug__" : Str)) = false := by decide) : PM X W mu0 (.Raise (some (.Call (.Name x p) [.Constant (.str m) j p2] [] pos)) none pos2) (sRaise x) :=
  ⟨PS.imp (ps_raise hc tk (pmk_own F q gC kC r hg hdb)) fun E st H ⟨ds, mu, h, r, q⟩ => q (.ref C) none st H mu r (.refl _) ⟨gC, .inl ⟨rfl, rfl⟩⟩⟩

/-! ### lists of the logical heap -/
@[simp] def refLst (h : LH) : SV → Option (Nat × List SV)
  | .ref n => match h[n]? with
    | some (.lst xs) => some (n, xs)
    | _ => none
  | _ => none
theorem refLst_rel {K : PySem.W.Frag} {H : Hp} {mu : List Addr} {h : LH} {v : V} {s : SV} {p : Nat × List SV} (e : refLst h s = some p) (rh : RelH K H mu h) (r : RelSV K H mu v s) : ∃ a vs, v = .ref a ∧ mu[p.1]? = some a ∧ h[p.1]? = some (.lst p.2) ∧ H a = some (.lst vs) ∧ All2 (RelPV K H mu) vs p.2 := by
  cases s with
  | ref n =>
    have e : (match h[n]? with
      | some (GO.lst xs) => some (n, xs)
      | _ => none) = some p := e
    obtain ⟨a, ha, rfl⟩ := r
    cases eh : h[n]? with
    | none => rw [eh] at e; cases e
    | some g =>
      rw [eh] at e
      cases g with
      | lst xs =>
        cases e
        obtain ⟨vs, q1, q2⟩ := rh.at_ n a _ ha eh
        exact ⟨a, vs, rfl, ha, eh, q1, q2⟩
      | ins C fs => cases e
  | _ => cases e
/-- an item of any list -/
def gIxA (x y : SV) (h : LH) : Out SV := orNext (both (refLst h x) (asInt y)) (fun p => orBad (atI p.1.2 p.2) fun s => .ok s h) (gIx x y h)
theorem atI_all2 {α β : Type} {R : α → β → Prop} {vs : List α} {ds : List β} {i : Int} {d : β} (r : All2 R vs ds) (h : atI ds i = some d) : ∃ v, atI vs i = some v ∧ R v d := by
  unfold atI at h ⊢
  rw [r.length]
  cases e : ixN ds.length i with
  | none => rw [e] at h; cases h
  | some j =>
    rw [e] at h
    exact r.get h
theorem og_ix : OpG X (rIx X.K) gIx := fun W mu h H v u x y Q rh r1 r2 q => by
  rcases q.orNext with ⟨p, e, q⟩ | q
  · obtain ⟨e1, e2⟩ := both_of e
    obtain ⟨hz, q⟩ := q.iff
    obtain ⟨c, ec, q⟩ := q.orBad
    exact .inr (.inr ⟨_, _, c, asStr_rel e1 r1, asInt_rel e2 r2, hz, ec, q.here rh (.str _)⟩)
  · obtain ⟨p, e, q⟩ := q.orBad
    obtain ⟨e1, e2⟩ := both_of e
    obtain ⟨d, ed, q⟩ := q.orBad
    obtain ⟨a, xs, ex, hs, z⟩ := asSeq_rel e1 r1
    obtain ⟨v', ev, rv⟩ := atI_rel z ed
    rcases hs with hs | hs
    · exact .inl ⟨a, xs, _, v', ex, asInt_rel e2 r2, hs, ev, q.here rh rv⟩
    · exact .inr (.inl ⟨a, xs, _, v', ex, asInt_rel e2 r2, hs, ev, q.here rh rv⟩)
theorem em_ixA (ha : EM X W a fa) (hb : EM X W b fe) (hs : PlainIx b) : EM X W (.Subscript a b pos) (eBin gIxA fa fe) := by
  refine ⟨PE.imp (pe_ix ix_seq ha.pe hb.pe hs) (LE.bin fun W mu h H v u x y Q rh r1 r2 q => ?_)⟩
  rcases q.orNext with ⟨p, e, q⟩ | q
  · obtain ⟨e1, e2⟩ := both_of e
    obtain ⟨d, ed, q⟩ := q.orBad
    obtain ⟨a, vs, rfl, _, _, hl, rr⟩ := refLst_rel e1 rh r1
    obtain ⟨v', ev, rv⟩ := atI_all2 rr ed
    exact .inl ⟨a, vs, _, v', rfl, asInt_rel e2 r2, rd_sq (.inl hl), ev, q.here rh rv.2⟩
  · exact og_ix W mu h H v u x y Q rh r1 r2 q
/-- an item of the script -/
def gIxS (x y : SV) (h : LH) : Out SV := orBad (both (match x with
  | .scr ns => some ns
  | _ => none) (asInt y)) fun p => orBad (atI p.1 p.2) fun k => .ok (.val (.int k)) h
theorem em_ixS (ha : EM X W a fa) (hb : EM X W b fe) (hs : PlainIx b) : EM X W (.Subscript a b pos) (eBin gIxS fa fe) := by
  refine ⟨PE.imp (pe_ix ix_list ha.pe hb.pe hs) (LE.bin fun W mu h H v u x y Q rh r1 r2 q => ?_)⟩
  obtain ⟨p, e, q1⟩ := q.orBad
  obtain ⟨e1, e2⟩ := both_of e
  obtain ⟨k, ek, q2⟩ := q1.orBad
  cases x with
  | scr ns =>
    cases e1
    obtain ⟨a, rfl, f⟩ := r1
    refine ⟨a, _, _, V.int k, rfl, asInt_rel e2 r2, f.sq, ?_, After.here (R := rSV X.K) q2 rh (Rp.int _)⟩
    unfold atI at ek ⊢
    rw [List.length_map]
    cases e : ixN p.1.length p.2 with
    | none => rw [e] at ek; cases ek
    | some j =>
      rw [e] at ek
      show (p.1.map V.int)[j]? = _
      have ek : p.1[j]? = some k := ek
      rw [List.getElem?_map, ek]; rfl
  | _ => cases e1
/-- a new list of the logical heap -/
def plainsB : List SV → Bool
  | [] => true
  | .val _ :: r => plainsB r
  | .ref _ :: r => plainsB r
  | _ => false
theorem plains_of {K : PySem.W.Frag} {H : Hp} {mu : List Addr} : ∀ {ss : List SV} {vs : List V}, plainsB ss = true → All2 (RelSV K H mu) vs ss → All2 (RelPV K H mu) vs ss
  | [], _, _, .nil => .nil
  | s :: ss, _, h, .cons r t => by
    cases s with
    | val d => exact .cons ⟨trivial, r⟩ (plains_of h t)
    | ref n => exact .cons ⟨trivial, r⟩ (plains_of h t)
    | _ => cases h
def gLstH (xs : List SV) (h : LH) : Out SV := iff (plainsB xs = true ∧ xs.length ≤ sizeLine) (.ok (.ref h.length) (h ++ [.lst xs]))
theorem RelH.add {K : PySem.W.Frag} {H : Hp} {mu : List Addr} {h : LH} (r : RelH K H mu h) {p : Addr} {o : HO} {g : GO} (n : H p = none) (k : RelGO K (upd H p o) (mu ++ [p]) p g) : Ext mu H (mu ++ [p]) (upd H p o) ∧ RelH K (upd H p o) (mu ++ [p]) (h ++ [g]) := by
  have e : Ext mu H (mu ++ [p]) (upd H p o) := ⟨upd_mono n, fun b u q _ => by rw [upd_ne (ne_of_none q n)]; exact q, ⟨[p], rfl, fun a ha => by rw [List.mem_singleton] at ha; subst ha; exact n⟩, fun b q => by
    by_cases z : b = p
    · subst z; rw [upd_same]; simp
    · rw [upd_ne z]; exact q⟩
  have np : p ∉ mu := r.notin n
  refine ⟨e, ⟨by rw [List.length_append, List.length_append, r.len]; rfl, List.nodup_append.mpr ⟨r.nd, by simp, fun a ha b hb => by rw [List.mem_singleton] at hb; subst hb; exact fun z => np (z ▸ ha)⟩, fun m a o h1 h2 => ?_⟩⟩
  by_cases hm : m < mu.length
  · rw [List.getElem?_append_left hm] at h1
    rw [List.getElem?_append_left (by rw [← r.len]; exact hm)] at h2
    exact (r.at_ m a o h1 h2).keep (fun u q => by rw [upd_ne (ne_of_none q n)]; exact q) fun _ _ q => q.ext e
  · rw [List.getElem?_append_right (by omega)] at h1
    rw [List.getElem?_append_right (by rw [← r.len]; omega)] at h2
    rw [← r.len] at h2
    cases hk : m - mu.length with
    | zero =>
      rw [hk] at h1 h2
      cases h1
      cases h2
      exact k
    | succ j => rw [hk] at h1; simp at h1
theorem em_lstH (hs : AM X W es fs) : EM X W (.List es pos) (eArgs gLstH fs) := ⟨PE.imp (pe_lst hs.pa) fun st H Q ⟨ds, mu, h, rs, rh, q⟩ => ⟨ds, mu, h, rs, rh, After.step q fun xs h1 vs H1 mu1 _ e1 rh1 r1 q1 => by
  obtain ⟨⟨hp, hz⟩, q2⟩ := q1.iff
  have rp := plains_of hp r1
  refine ⟨by rw [r1.length]; exact hz, fun p hp => ?_⟩
  have e0 : Ext mu1 H1 (mu1 ++ [p]) (upd H1 p (.lst vs)) := ⟨upd_mono hp, fun b u q _ => by rw [upd_ne (ne_of_none q hp)]; exact q, ⟨[p], rfl, fun a ha => by rw [List.mem_singleton] at ha; subst ha; exact hp⟩, fun b q => by
    by_cases z : b = p
    · subst z; rw [upd_same]; simp
    · rw [upd_ne z]; exact q⟩
  obtain ⟨e2, rh2⟩ := rh1.add (g := .lst xs) hp ⟨vs, upd_same, rp.imp fun _ _ z => z.ext e0⟩
  exact q2 _ _ _ e2 rh2 ⟨p, by rw [← rh1.len, List.getElem?_append_right (Nat.le_refl _)]; simp, rfl⟩⟩⟩
/-- x[i] = e, x a list of the logical heap -/
def sSub (fo fi fe : DS → LH → Out SV) : SF := fun ds h => (fe ds h).so ds fun s h1 => (fo ds h1).so ds fun x h2 => (fi ds h2).so ds fun k h3 =>
  orBadS (both (refLst h3 x) (asInt k)) fun p => orBadS (ixN p.1.2.length p.2) fun j => iffS (plainS s = true) (.nx ds (h3.set p.1.1 (.lst (p.1.2.set j s))))
theorem RelH.put {K : PySem.W.Frag} {H : Hp} {mu : List Addr} {h : LH} (r : RelH K H mu h) {m : Nat} {a : Addr} {o : HO} {g : GO} (ha : mu[m]? = some a) (e : Ext mu H mu (upd H a o)) (k : RelGO K (upd H a o) mu a g) : RelH K (upd H a o) mu (h.set m g) where
  len := by rw [List.length_set]; exact r.len
  nd := r.nd
  at_ := fun n b o' h1 h2 => by
    by_cases z : m = n
    · subst z
      rw [ha] at h1
      cases h1
      rw [List.getElem?_set_self (by rw [← r.len]; exact (List.getElem?_eq_some_iff.mp ha).1)] at h2
      cases h2
      exact k
    · rw [List.getElem?_set_ne z] at h2
      have hb : b ≠ a := fun w => by
        subst w
        obtain ⟨l1, l2⟩ := List.getElem?_eq_some_iff.mp ha
        obtain ⟨l3, l4⟩ := List.getElem?_eq_some_iff.mp h1
        exact z ((List.getElem_inj r.nd).mp (l2.trans l4.symm))
      exact (r.at_ n b o' h1 h2).keep (fun u q => by rw [upd_ne hb]; exact q) fun _ _ q => q.ext e
theorem ext_mu {mu : List Addr} {H : Hp} {a : Addr} {xs ys : List V} (m : a ∈ mu) (e : H a = some (.lst xs)) : Ext mu H mu (upd H a (.lst ys)) :=
  ⟨mono_setL e, fun b u q hb => by rw [upd_ne (fun z => hb (by rw [z]; exact m))]; exact q, ⟨[], by simp, by simp⟩, fun b q => by
    by_cases z : b = a
    · subst z; rw [upd_same]; simp
    · rw [upd_ne z]; exact q⟩
theorem pm_sub {ix : Expr} {tpos : Pos} (ho : EM X W o fo) (hi : EM X W ix fi) (he : EM X W e fe)
    (ha : ∀ v, assign (.Subscript o ix tpos) X.env v = (do
      let ov ← holding [v] (eval o X.env)
      let iv ← holding [v, ov] (eval ix X.env)
      standAt tpos
      holding [v, ov, iv] (setItem ov iv v)
      release [v, ov, iv] []) := by intro _; rfl)
    (hs : swapsWithSole [.Subscript o ix tpos] e pos.line X.env = pure false := by rfl) (hw : swappedStores [.Subscript o ix tpos] e X.env = pure none := by rfl)
    (h1 : (assignEach [.Subscript o ix tpos] X.env).map (·.2) = [assign (.Subscript o ix tpos) X.env] := by rfl) : PM X W mu0 (.Assign [.Subscript o ix tpos] e pos) (sSub fo fi fe) :=
  ⟨PS.imp (ps_asg he.pe (pg_sub ho.pe hi.pe set_list ha) hs hw h1) fun E st H ⟨ds, mu, h, r, q⟩ =>
    ⟨ds, mu, h, r.rs, r.rh, LS.expr r q fun s h1 v H1 mu1 _ e1 r1 rv q1 => ⟨ds, mu1, h1, r1.rs, r1.rh, LS.expr r1 q1 fun x h2 ov H2 mu2 _ e2 r2 ro q2 => ⟨ds, mu2, h2, r2.rs, r2.rh, LS.expr r2 q2 fun k h3 iv H3 mu3 _ e3 r3 ri q3 => by
      obtain ⟨p, ep, q4⟩ := q3.orBad
      obtain ⟨j, ej, q5⟩ := q4.orBad
      obtain ⟨hp, q6⟩ := q5.iff
      obtain ⟨e4, e5⟩ := both_of ep
      obtain ⟨a, vs, rfl, hm, hh, hl, rr⟩ := refLst_rel e4 r3.rh (ro.ext e3)
      have hmem : a ∈ mu3 := List.mem_of_getElem? hm
      have ex := ext_mu (ys := vs.set j v) hmem hl
      have rv3 := (rv.ext e2).ext e3
      have pv : RelPV X.K H3 mu3 v s := ⟨(by cases s <;> first | trivial | cases hp), rv3⟩
      refine ⟨a, vs, _, j, rfl, asInt_rel e5 ri, hl, by rw [rr.length]; exact ej, q6 st _ mu3 (r3.step ex ?_) ex.mono⟩
      exact r3.rh.put hm ex ⟨_, upd_same, All2.set (pv.ext ex) j (rr.imp fun _ _ z => z.ext ex)⟩⟩⟩⟩⟩

/-! ### a def of the text -/
def runOf (m : Nat) (fb : SF) : RF := fun xs h => match fb (xs.map some ++ List.replicate (m - xs.length) none) h with
  | .nx _ h' => .ok (.val .none) h'
  | .rt s h' => .ok s h'
  | .exc x _ h' => .exc x h'
  | _ => .bad
end
section
variable {P : Program} {w : World} {K : PySem.W.Frag} {mg : Str → Option Value} {base : Heap}
theorem start_rel {K : PySem.W.Frag} {mg : Str → Option Value} {H : Hp} {mu : List Addr} {N : List Str} {vs : List V} {ss : List SV} (r : All2 (RelSV K H mu) vs ss) (hh : ∀ s ∈ ss, Hand s) : RelS K mg [] H mu (L2.start N vs) (ss.map some ++ List.replicate (N.length - ss.length) none) := by
  have key : ∀ (i : Nat) (s : SV), (ss.map some ++ List.replicate (N.length - ss.length) none)[i]? = some (some s) → ss[i]? = some s := fun i s h => by
    by_cases hi : i < ss.length
    · rw [List.getElem?_append_left (by simpa using hi), List.getElem?_map, Option.map_eq_some_iff] at h
      obtain ⟨t, e, z⟩ := h
      cases z
      exact e
    · rw [List.getElem?_append_right (by simpa using hi), List.getElem?_replicate] at h
      split at h <;> cases h
  refine ⟨by unfold L2.start; simp [r.length], fun i s h n => ?_, fun i x h => ?_⟩
  · obtain ⟨v, ev, rv⟩ := r.get (key i s h)
    refine ⟨v, ?_, rv⟩
    unfold L2.start
    rw [List.getElem?_append_left (by simpa using (List.getElem?_eq_some_iff.mp ev).1), List.getElem?_map, ev]
    rfl
  · exact (hh _ (List.mem_of_getElem? (key i _ h))).elim
theorem fn_ok {x qual : Str} {st : Stmt} {f : Addr} {fd : FuncData} {N ps : List Str} {k : Nat} {fb : SF} (F : Fun K x qual st f fd) (S : FnScope N ps (defScope st))
    (body : ∀ (cdv : Value) (A : Around) (outer : List Env) (s : Shared) (H : Hp) (E : XK) (mu0 : List Addr), Room k (A.deeper (envOfC qual (defScope st) s.heap.objs.size f cdv)) →
      BM (cxOf (L2.CX P w) P w K mg base N qual (defScope st) f cdv A outer s H E) (fun cls d _ H => E cls d H) mu0 (defBody st) fb) :
    FnOk P w K mg base (L2.CX P w) (k + 1) f fd ps (spOf K mg ps.length (runOf N.length fb)) := by
  refine F.okX S (fun vs H Q E h => h.1) fun cdv A outer s H vs Q E hr h => ?_
  obtain ⟨hl, ss, mu, hh, rr, hand, rh, q⟩ := h
  refine ⟨_, (body cdv A outer s H E mu hr).pss, ss.map some ++ List.replicate (N.length - ss.length) none, mu, hh, ⟨start_rel rr hand, rh, .refl _ _, fun i l a h1 _ => ?_, fun i j l l' a _ h1 _ _ => ?_⟩, ?_⟩
  · have z := (start_rel (N := N) (mg := mg) rr hand).at_ i _ h1 (fun _ z => by cases z)
    have key : ss[i]? = some (.own l) := by
      by_cases hi : i < ss.length
      · rw [List.getElem?_append_left (by simpa using hi), List.getElem?_map, Option.map_eq_some_iff] at h1
        obtain ⟨t, e, z⟩ := h1
        cases z
        exact e
      · rw [List.getElem?_append_right (by simpa using hi), List.getElem?_replicate] at h1
        split at h1 <;> cases h1
    exact (hand _ (List.mem_of_getElem? key)).elim
  · have key : ss[i]? = some (.own l) := by
      by_cases hi : i < ss.length
      · rw [List.getElem?_append_left (by simpa using hi), List.getElem?_map, Option.map_eq_some_iff] at h1
        obtain ⟨t, e, z⟩ := h1
        cases z
        exact e
      · rw [List.getElem?_append_right (by simpa using hi), List.getElem?_replicate] at h1
        split at h1 <;> cases h1
    exact (hand _ (List.mem_of_getElem? key)).elim
  · unfold runOf at q
    cases eb : fb (ss.map some ++ List.replicate (N.length - ss.length) none) hh with
    | nx ds' h' =>
      rw [eb] at q
      exact fun st' H' mu' r' _ => q .non H' mu' r'.ext r'.rh Rp.non
    | rt s' h' =>
      rw [eb] at q
      exact fun v H' mu' e' rh' rv => q v H' mu' e' rh' rv
    | exc x' ds' h' =>
      rw [eb] at q
      exact fun c dd st' H' mu' r' _ rx => q c dd H' mu' r'.ext r'.rh rx
    | bk ds' h' => rw [eb] at q; exact q.elim
    | ct ds' h' => rw [eb] at q; exact q.elim
    | bad => rw [eb] at q; exact q.elim
end
theorem hU {k : Nat} {A : Around} (r : Room k A) : A.units + 150 < cLine := by have := r.un; omega
/-- the law's end: what the def gives, for every script -/
theorem law_walk {run : RF} {k : Nat} {l : PySem.W.OpenLaw} {q : Program} {loose : List Str} {XP : (Str → Option Value) → Heap → Prop} {YP : World → Heap → Prop} {d : DefRec} {K : Params → PySem.W.Frag} (hn : l.most = some 63) (hdf : d.params.defaults = []) (hr : Room k callerA)
    (hY : ∀ (w : World) (h : Heap), YP w h → (K w.params).In h)
    (F : ∀ (w : World) (mg : Str → Option Value) (fa : Addr) (h : Heap), (K w.params).In h → h.Ns mainGlobals mg → mg d.name = some (.ref fa) →
      ∃ fd : FuncData, (∀ (s : Shared) (u : Value), BindsTo s fd ⟨[u], []⟩ [("_law_script", u)]) ∧ ∀ base : Heap, (K w.params).In base → base.Ns mainGlobals mg → FnOk l.prog w (K w.params) mg base (L2.CX l.prog w) k fa fd ["_law_script"] (spOf (K w.params) mg 1 run))
    (T : ∀ ns : List Int, ns.length ≤ 63 → ∃ h', run [.scr ns] [] = .ok (.val (.bool true)) h') :
    PySem.W.WalkO q loose XP YP l.row.toRowW d [] (fun f vs => PySem.call f vs) := by
  refine Att.attach_call hn hdf fun w s₀ s₁ mg mb fa o pm cd doc a vs ns G Y ho hd hcd hmg hobj hints hlen hg => ?_
  have KX := hY w _ Y
  obtain ⟨fd, hb, hF⟩ := F w mg fa _ KX G.T.g hmg
  refine law_call KX G.T.g G.T.b G.T.builtins G.T.nolimit hg hobj hints (Nat.le_trans hlen (by decide)) hr hF hb (fun H hO hS => ?_) fun H e s' hc => ?_
  · obtain ⟨h', e⟩ := T ns hlen
    refine ⟨rfl, [.scr ns], [], [], .cons ⟨a, rfl, ?_⟩ .nil, fun s hs => by rw [List.mem_singleton] at hs; subst hs; trivial, relH_nil _ H, ?_⟩
    · rcases hS with (hS | ⟨o, hS⟩) | hS
      · rcases hO a with z | ⟨o', xs, z⟩
        · rw [hS] at z; cases z
        · rw [hS] at z; cases z
      · exact .inl ⟨o, hS⟩
      · exact .inr hS
    · rw [e]
      intro v H' mu' _ _ r
      cases r
      rfl
  · obtain ⟨_, _, _, _, _, _, _, _, _, _, _, _, z⟩ := hc
    exact z.elim
end U
/-! U9: more statements and expressions. -/
namespace U
open PySem PySem.Spec PyProof.Rows L2
section
variable {X : Cx} {W : WX} {mu0 : List Addr} {pos : Pos}
def sPar (i j : Nat) (fs : DS → LH → Out (List SV)) : SF := fun ds h => (fs ds h).so ds fun xs h1 => orBadS (arg2 xs) fun p => iffS ((storeB p.1 && storeB p.2) = true) (.nx ((ds.set i (some p.1)).set j (some p.2)) h1)
theorem pm_par {i j : Nat} {x y : Str} {a b : Expr} {px py pt : Pos} {kt k2 pt2} {fs : DS → LH → Out (List SV)} (hc : X.calm = true) (hN : X.N.Nodup) (hi : X.N[i]? = some x) (hj : X.N[j]? = some y) (hij : i ≠ j)
    (hx : X.env.scope.names.lookup x = some .local) (hy : X.env.scope.names.lookup y = some .local) (ha : AM X W [a, b] fs)
    (hw : swappedStores [.Tuple [.Name x px, .Name y py] kt pt] (.Tuple [a, b] k2 pt2) X.env = pure (some [x, y]) := by rfl)
    (hs : swapsWithSole [.Tuple [.Name x px, .Name y py] kt pt] (.Tuple [a, b] k2 pt2) pos.line X.env = pure false := by rfl) :
    PM X W mu0 (.Assign [.Tuple [.Name x px, .Name y py] kt pt] (.Tuple [a, b] k2 pt2) pos) (sPar i j fs) := ⟨PS.imp (ps_par hc hN hi hj hij hx hy ha.pa hw hs) fun E st H ⟨ds, mu, h, r, q⟩ =>
  ⟨ds, mu, h, r.rs, r.rh, LS.expr r q fun ss h1 vs H1 mu1 _ e1 r1 rv q1 => by
    obtain ⟨p, e, q2⟩ := q1.orBad
    obtain ⟨hz, q3⟩ := q2.iff
    rw [Bool.and_eq_true] at hz
    obtain ⟨p1, p2⟩ := p
    obtain ⟨rfl⟩ : ss = [p1, p2] := by
      match ss, e with
      | [a, b], e => cases e; rfl
    cases rv with
    | cons t1 t =>
      cases t with
      | cons t2 t =>
        cases t
        exact ⟨_, _, rfl, q3 _ H1 mu1 ((r1.set hz.1 t1).set hz.2 t2) (.refl _)⟩⟩⟩
end
end U
/-! P0: laws of the functions over data. -/
namespace U
open PySem PySem.Spec PyProof.Rows L2

@[simp] theorem slot_val {ds : DS} {i : Nat} {d : D} (h : ds[i]? = some (some (.val d))) : slot ds i = some (.val d) := by unfold slot; rw [h]
@[simp] theorem slot_c0 (s : SV) (r : DS) : slot (some s :: r) 0 = (match s with | .exc _ => none | s => some s) := by cases s <;> rfl
@[simp] theorem slot_cs (s : Option SV) (r : DS) (i : Nat) : slot (s :: r) (i + 1) = slot r i := (rfl)
@[simp] theorem iff_t {α : Type} {c : Prop} [Decidable c] (h : c) (o : Out α) : iff c o = o := if_pos h
/-- a comprehension whose parts leave the heap alone -/
theorem compL_map {tg : D → DS → Option DS} {tt : DS → LH → Out Bool} {fe : DS → LH → Out SV} {ds : DS} {h : LH} (g : D → D) (p : D → Bool) : ∀ items : List D,
    (∀ x ∈ items, ∃ ds1, tg x ds = some ds1 ∧ tt ds1 h = .ok (p x) h ∧ (p x = true → fe ds1 h = .ok (.val (g x)) h)) → compL tg tt fe ds items h = .ok ((items.filter p).map g) h
  | [], _ => rfl
  | x :: r, H => by
    obtain ⟨ds1, e1, e2, e3⟩ := H x (List.mem_cons_self)
    have ih := compL_map g p r fun y hy => H y (List.mem_cons_of_mem _ hy)
    unfold compL
    rw [e1, orBad_some, e2, Out.calm_ok, Out.bind_ok]
    cases q : p x with
    | true =>
      show ((fe ds1 h).calm.bind _) = _
      rw [e3 q, Out.calm_ok, Out.bind_ok]
      show ((compL tg tt fe ds r h).bind _) = _
      rw [ih, Out.bind_ok, List.filter_cons_of_pos q, List.map_cons]
    | false =>
      show compL tg tt fe ds r h = _
      rw [ih, List.filter_cons_of_neg (by rw [q]; exact Bool.false_ne_true)]
theorem compL_all {tg : D → DS → Option DS} {fe : DS → LH → Out SV} {ds : DS} {h : LH} (g : D → D) (items : List D)
    (H : ∀ x ∈ items, ∃ ds1, tg x ds = some ds1 ∧ fe ds1 h = .ok (.val (g x)) h) : compL tg tYes' fe ds items h = .ok (items.map g) h := by
  have := compL_map (tt := tYes') (h := h) g (fun _ => true) items fun x hx => let ⟨ds1, e1, e2⟩ := H x hx; ⟨ds1, e1, rfl, fun _ => e2⟩
  rw [this, List.filter_eq_self.mpr fun _ _ => rfl]
@[simp] theorem u_eVar (i : Nat) (ds : DS) (h : LH) : eVar i ds h = orBad (slot ds i) fun s => .ok s h := (rfl)
@[simp] theorem u_eC (d : D) (ds : DS) (h : LH) : eC d ds h = .ok (.val d) h := (rfl)
@[simp] theorem u_eBin (g : SV → SV → LH → Out SV) (fa fb : DS → LH → Out SV) (ds : DS) (h : LH) : eBin g fa fb ds h = (fa ds h).bind fun x h1 => (fb ds h1).bind fun y h2 => g x y h2 := (rfl)
@[simp] theorem u_eArgs (g : List SV → LH → Out SV) (fs : DS → LH → Out (List SV)) (ds : DS) (h : LH) : eArgs g fs ds h = (fs ds h).bind g := (rfl)
@[simp] theorem u_aNil (ds : DS) (h : LH) : aNil ds h = .ok [] h := (rfl)
@[simp] theorem u_aCons (fa : DS → LH → Out SV) (fs : DS → LH → Out (List SV)) (ds : DS) (h : LH) : aCons fa fs ds h = (fa ds h).bind fun x h1 => (fs ds h1).bind fun xs h2 => .ok (x :: xs) h2 := (rfl)
@[simp] theorem u_eUn (g : SV → LH → Out SV) (fa : DS → LH → Out SV) (ds : DS) (h : LH) : eUn g fa ds h = (fa ds h).bind g := (rfl)
@[simp] theorem u_eIf (t : DS → LH → Out Bool) (fa fb : DS → LH → Out SV) (ds : DS) (h : LH) : eIf t fa fb ds h = (t ds h).bind fun b h1 => match b with | true => fa ds h1 | false => fb ds h1 := (rfl)
@[simp] theorem u_eChain (g g' : SV → SV → LH → Out SV) (fa fb fc : DS → LH → Out SV) (ds : DS) (h : LH) : eChain g g' fa fb fc ds h = (fa ds h).bind fun x h1 => (fb ds h1).bind fun y h2 => (g x y h2).bind fun z h3 => orBad (asBool z) fun k => match k with | true => (fc ds h3).bind fun w h4 => g' y w h4 | false => .ok (.val (.bool false)) h3 := (rfl)
@[simp] theorem u_eAndV (fa fb : DS → LH → Out SV) (ds : DS) (h : LH) : eAndV fa fb ds h = (fa ds h).bind fun x h1 => orBad (asBool x) fun b => match b with | true => fb ds h1 | false => .ok (.val (.bool false)) h1 := (rfl)
@[simp] theorem u_eOrV (fa fb : DS → LH → Out SV) (ds : DS) (h : LH) : eOrV fa fb ds h = (fa ds h).bind fun x h1 => orBad (asBool x) fun b => match b with | true => .ok (.val (.bool true)) h1 | false => fb ds h1 := (rfl)
@[simp] theorem u_eNotV (fa : DS → LH → Out SV) (ds : DS) (h : LH) : eNotV fa ds h = (fa ds h).bind fun x h1 => orBad (asBool x) fun b => .ok (.val (.bool (!b))) h1 := (rfl)
@[simp] theorem u_eFz (f : DS → LH → Out (List D)) (ds : DS) (h : LH) : eFz f ds h = (f ds h).bind fun l h1 => .ok (.val (.list l)) h1 := (rfl)
@[simp] theorem u_eArgsF (fs : DS → LH → Out (List SV)) (ds : DS) (h : LH) : eArgsF fs ds h = (fs ds h).bind fun xs h1 => orBad (asVals xs) fun ds => iff (ds.length ≤ sizeLine) (.ok ds h1) := (rfl)
@[simp] theorem u_eSl (fa : DS → LH → Out SV) (fl fu : DS → LH → Out (Option Int)) (ds : DS) (h : LH) : eSl fa fl fu ds h = (fa ds h).bind fun x h1 => (fl ds h1).bind fun lo h2 => (fu ds h2).bind fun hi h3 => gSl x lo hi h3 := (rfl)
@[simp] theorem u_oNone (ds : DS) (h : LH) : oNone ds h = .ok none h := (rfl)
@[simp] theorem u_oSome (fa : DS → LH → Out SV) (ds : DS) (h : LH) : oSome fa ds h = (fa ds h).bind fun x h1 => orBad (asInt x) fun i => .ok (some i) h1 := (rfl)
@[simp] theorem u_eIsi (T : String) (fa : DS → LH → Out SV) (ds : DS) (h : LH) : eIsi T fa ds h = (fa ds h).bind fun x h1 => orBad (isiS T x) fun b => .ok (.val (.bool b)) h1 := (rfl)
@[simp] theorem u_eS1 (g : Str → SV → LH → Out SV) (fo fe : DS → LH → Out SV) (ds : DS) (h : LH) : eS1 g fo fe ds h = (fo ds h).bind fun x h1 => orBad (asStr x) fun a => (fe ds h1).bind fun y h2 => g a y h2 := (rfl)
@[simp] theorem u_tOf (f : DS → LH → Out SV) (ds : DS) (h : LH) : tOf f ds h = (f ds h).bind fun x h1 => orBad (asBool x) fun b => .ok b h1 := (rfl)
@[simp] theorem u_tAnd_ (fa fb : DS → LH → Out Bool) (ds : DS) (h : LH) : tAnd' fa fb ds h = (fa ds h).bind fun b h1 => match b with | true => fb ds h1 | false => .ok false h1 := (rfl)
@[simp] theorem u_tOr_ (fa fb : DS → LH → Out Bool) (ds : DS) (h : LH) : tOr' fa fb ds h = (fa ds h).bind fun b h1 => match b with | true => .ok true h1 | false => fb ds h1 := (rfl)
@[simp] theorem u_tNot_ (fa : DS → LH → Out Bool) (ds : DS) (h : LH) : tNot' fa ds h = (fa ds h).bind fun b h1 => .ok (!b) h1 := (rfl)
@[simp] theorem u_tTru (f : DS → LH → Out SV) (ds : DS) (h : LH) : tTru f ds h = (f ds h).bind fun x h1 => orBad (tru x) fun b => .ok b h1 := (rfl)
@[simp] theorem u_tYes_ (ds : DS) (h : LH) : tYes' ds h = .ok true h := (rfl)
@[simp] theorem u_iSeq (f : DS → LH → Out SV) (ds : DS) (h : LH) : iSeq f ds h = (f ds h).bind fun x h1 => orBad (asFix x) fun l => .ok l h1 := (rfl)
@[simp] theorem u_iStr_ (f : DS → LH → Out SV) (ds : DS) (h : LH) : iStr' f ds h = (f ds h).bind fun x h1 => orBad (asStr x) fun l => .ok (signs l) h1 := (rfl)
@[simp] theorem u_iRange1 (fs : DS → LH → Out (List SV)) (ds : DS) (h : LH) : iRange1 fs ds h = (fs ds h).bind fun xs h1 => orBad (arg1 xs) fun x => orBad (asInt x) fun j => iff (okR j) (.ok (rangeD 0 j.toNat) h1) := (rfl)
@[simp] theorem u_sNil (ds : DS) (h : LH) : sNil ds h = .nx ds h := (rfl)
@[simp] theorem u_sSeq (f g : SF) (ds : DS) (h : LH) : sSeq f g ds h = match f ds h with | .nx ds' h' => g ds' h' | o => o := (rfl)
@[simp] theorem u_sExpr (fe : DS → LH → Out SV) (ds : DS) (h : LH) : sExpr fe ds h = (fe ds h).so ds fun _ h1 => .nx ds h1 := (rfl)
@[simp] theorem u_sRet (fe : DS → LH → Out SV) (ds : DS) (h : LH) : sRet fe ds h = (fe ds h).so ds fun s h1 => iffS (plainS s = true) (.rt s h1) := (rfl)
@[simp] theorem u_sRetN (ds : DS) (h : LH) : sRetN ds h = .rt (.val .none) h := (rfl)
@[simp] theorem u_sIf (t : DS → LH → Out Bool) (f g : SF) (ds : DS) (h : LH) : sIf t f g ds h = (t ds h).so ds fun b h1 => match b with | true => f ds h1 | false => g ds h1 := (rfl)
@[simp] theorem u_sSet (i : Nat) (fe : DS → LH → Out SV) (ds : DS) (h : LH) : sSet i fe ds h = (fe ds h).so ds fun s h1 => iffS (storeB s = true) (.nx (ds.set i (some s)) h1) := (rfl)
@[simp] theorem u_sOwn (i : Nat) (fl : DS → LH → Out (List D)) (ds : DS) (h : LH) : sOwn i fl ds h = (fl ds h).so ds fun l h1 => .nx (ds.set i (some (.own l))) h1 := (rfl)
@[simp] theorem u_sApp (i : Nat) (fe : DS → LH → Out SV) (ds : DS) (h : LH) : sApp i fe ds h = orBadS (ownAt ds i) fun l => (fe ds h).so ds fun s h1 => orBadS (asVal s) fun d => iffS (l.length < sizeLine) (.nx (ds.set i (some (.own (l ++ [d])))) h1) := (rfl)
@[simp] theorem u_sExt (i : Nat) (fe : DS → LH → Out SV) (ds : DS) (h : LH) : sExt i fe ds h = orBadS (ownAt ds i) fun l => (fe ds h).so ds fun s h1 => orBadS (asLst s) fun l2 => iffS (l.length + l2.length ≤ sizeLine) (.nx (ds.set i (some (.own (l ++ l2)))) h1) := (rfl)
@[simp] theorem u_sAug (i : Nat) (fe : DS → LH → Out SV) (ds : DS) (h : LH) : sAug i fe ds h = orBadS ((slot ds i).bind asInt) fun k => (fe ds h).so ds fun s h1 => orBadS (asInt s) fun j => .nx (ds.set i (some (.val (.int (k + j))))) h1 := (rfl)
@[simp] theorem u_sTg (ftg : D → DS → Option DS) (fe : DS → LH → Out SV) (ds : DS) (h : LH) : sTg ftg fe ds h = (fe ds h).so ds fun s h1 => orBadS (asVal s) fun d => orBadS (ftg d ds) fun ds' => .nx ds' h1 := (rfl)
@[simp] theorem u_sFor (fi : DS → LH → Out (List D)) (ftg : D → DS → Option DS) (fb : SF) (ds : DS) (h : LH) : sFor fi ftg fb ds h = (fi ds h).so ds fun items h1 => forL ftg fb items ds h1 := (rfl)
@[simp] theorem u_sSub (fo fi fe : DS → LH → Out SV) (ds : DS) (h : LH) : sSub fo fi fe ds h = (fe ds h).so ds fun s h1 => (fo ds h1).so ds fun x h2 => (fi ds h2).so ds fun k h3 => orBadS (both (refLst h3 x) (asInt k)) fun p => orBadS (ixN p.1.2.length p.2) fun j => iffS (plainS s = true) (.nx ds (h3.set p.1.1 (.lst (p.1.2.set j s)))) := (rfl)
@[simp] theorem u_sRaise (x : Str) (ds : DS) (h : LH) : sRaise x ds h = .exc ⟨x, []⟩ ds h := (rfl)
@[simp] theorem u_tgName (i : Nat) (d : D) (ds : DS) : tgName i d ds = if i < ds.length then some (ds.set i (some (.val d))) else none := (rfl)
@[simp] theorem u_tgsNil (ds : DS) : tgsNil [] ds = some ds := (rfl)
@[simp] theorem u_nArgs (n : Nat) (g : List SV → LH → Out SV) (xs : List SV) (h : LH) : nArgs n g xs h = iff (xs.length = n) (g xs h) := (rfl)
@[simp] theorem u_fLc (fi : DS → LH → Out (List D)) (tg : D → DS → Option DS) (tt : DS → LH → Out Bool) (fe : DS → LH → Out SV) (vs : List Nat) (ds : DS) (h : LH) : fLc fi tg tt fe vs ds h = (fi ds h).bind fun items h1 => iff (items.length ≤ sizeLine) (compL tg tt fe (dwipe ds vs) items h1) := (rfl)
@[simp] theorem u_tgsCons (f : D → DS → Option DS) (g : List D → DS → Option DS) (d : D) (r : List D) (ds : DS) : tgsCons f g (d :: r) ds = match f d ds with | some ds' => g r ds' | none => none := (rfl)
@[simp] theorem u_tgTup (n : Nat) (g : List D → DS → Option DS) (l : List D) (ds : DS) : tgTup n g (.tuple l) ds = if l.length = n then g l ds else none := (rfl)
@[simp] theorem u_sFz (i : Nat) (f : SF) (ds : DS) (h : LH) : sFz i f ds h = orBadS (ownAt ds i) fun l => f (ds.set i (some (.val (.list l)))) h := (rfl)
@[simp] theorem iff_True {α : Type} [Decidable True] (o : Out α) : iff True o = o := if_pos trivial
@[simp] theorem iffS_True [Decidable True] (o : SO) : iffS True o = o := if_pos trivial
@[simp] theorem u_plain_v (d : D) : plainS (.val d) = true := (rfl)
@[simp] theorem u_plain_r (n : Nat) : plainS (.ref n) = true := (rfl)
@[simp] theorem u_store_v (d : D) : storeB (.val d) = true := (rfl)
@[simp] theorem u_store_r (n : Nat) : storeB (.ref n) = true := (rfl)
@[simp] theorem u_hand_v (d : D) : handB (.val d) = true := (rfl)
@[simp] theorem u_hand_r (n : Nat) : handB (.ref n) = true := (rfl)
@[simp] theorem u_hand_s (n : List Int) : handB (.scr n) = true := (rfl)
@[simp] theorem u_own0 (l : List D) (r : DS) : ownAt (some (.own l) :: r) 0 = some l := (rfl)
@[simp] theorem u_ownS (s : Option SV) (r : DS) (i : Nat) : ownAt (s :: r) (i + 1) = ownAt r i := (rfl)
/-! ### operations on what is known -/
theorem gC_ok {C g : D → D → Bool} {d e : D} (hc : C d e = true) (h : LH) : gC C g (SV.val d) (SV.val e) h = .ok (SV.val (PyData.bool (g d e))) h := by
  show iff (C d e = true) (Out.ok (SV.val (PyData.bool (g d e))) h) = _
  exact if_pos hc
theorem bool_int {b : Bool} {i j : Int} (e : b = decide (i < j)) (h : LH) : (Out.ok (SV.val (PyData.bool (!b))) h : Out SV) = Out.ok (SV.val (PyData.bool (decide (j ≤ i)))) h := by
  rw [e]
  by_cases q : i < j
  · rw [decide_eq_true q, decide_eq_false (by omega : ¬ j ≤ i)]; rfl
  · rw [decide_eq_false q, decide_eq_true (by omega : j ≤ i)]; rfl
@[simp] theorem gLe_int (i j : Int) (h : LH) : gLe (.val (.int i)) (.val (.int j)) h = .ok (.val (.bool (decide (i ≤ j)))) h :=
  (gC_ok rfl h).trans (bool_int (PySem.W.dataLt_int _ _) h)
@[simp] theorem gGe_int (i j : Int) (h : LH) : gGe (.val (.int i)) (.val (.int j)) h = .ok (.val (.bool (decide (j ≤ i)))) h :=
  (gC_ok rfl h).trans (bool_int (PySem.W.dataLt_int _ _) h)
@[simp] theorem gLt_int (i j : Int) (h : LH) : gLt (.val (.int i)) (.val (.int j)) h = .ok (.val (.bool (decide (i < j)))) h :=
  (gC_ok rfl h).trans (by rw [PySem.W.dataLt_int])
@[simp] theorem gGt_int (i j : Int) (h : LH) : gGt (.val (.int i)) (.val (.int j)) h = .ok (.val (.bool (decide (j < i)))) h :=
  (gC_ok rfl h).trans (by rw [PySem.W.dataLt_int])
theorem eqv_int (i j : Int) : PyData.eqv (.int i) (.int j) = decide (i = j) := (rfl)
theorem eqv_str (i j : Str) : PyData.eqv (.str i) (.str j) = decide (i = j) := (rfl)
@[simp] theorem gEq_int (i j : Int) (h : LH) : gEq (.val (.int i)) (.val (.int j)) h = .ok (.val (.bool (decide (i = j)))) h :=
  (gC_ok rfl h).trans (by rw [eqv_int])
@[simp] theorem gNe_int (i j : Int) (h : LH) : gNe (.val (.int i)) (.val (.int j)) h = .ok (.val (.bool (!decide (i = j)))) h :=
  (gC_ok rfl h).trans (by rw [eqv_int])
@[simp] theorem gEq_str (i j : Str) (h : LH) : gEq (.val (.str i)) (.val (.str j)) h = .ok (.val (.bool (decide (i = j)))) h :=
  (gC_ok rfl h).trans (by rw [eqv_str])
@[simp] theorem gNe_str (i j : Str) (h : LH) : gNe (.val (.str i)) (.val (.str j)) h = .ok (.val (.bool (!decide (i = j)))) h :=
  (gC_ok rfl h).trans (by rw [eqv_str])
theorem eqv_bool (i j : Bool) : PyData.eqv (.bool i) (.bool j) = decide (i = j) := (rfl)
@[simp] theorem gEq_bool (i j : Bool) (h : LH) : gEq (.val (.bool i)) (.val (.bool j)) h = .ok (.val (.bool (decide (i = j)))) h :=
  (gC_ok rfl h).trans (by rw [eqv_bool])
@[simp] theorem gAdd_int (i j : Int) (h : LH) : gAdd (.val (.int i)) (.val (.int j)) h = .ok (.val (.int (i + j))) h := (rfl)
@[simp] theorem gSub_int (i j : Int) (h : LH) : gSub (.val (.int i)) (.val (.int j)) h = .ok (.val (.int (i - j))) h := by
  simp only [gSub, gI, asInt, both_ss, orBad_some]
  rw [iff_t (by decide)]
theorem gMod_int {i j : Int} (hj : 0 < j) (h : LH) : gMod (.val (.int i)) (.val (.int j)) h = .ok (.val (.int (i % j))) h := by
  simp only [gMod, gI, asInt, both_ss, orBad_some]
  rw [iff_t (decide_eq_true hj)]
theorem gDiv_int {i j : Int} (h0 : 0 < j) (h1 : j < 1073741824) (h : LH) : gDiv (.val (.int i)) (.val (.int j)) h = .ok (.val (.int (i / j))) h := by
  simp only [gDiv, gI, asInt, both_ss, orBad_some]
  rw [iff_t (by rw [decide_eq_true h0, decide_eq_true h1]; rfl)]
theorem gMul_intR {i j : Int} (h0 : -(2 ^ 64) < j) (h1 : j < 2 ^ 64) (h : LH) : gMul (.val (.int i)) (.val (.int j)) h = .ok (.val (.int (i * j))) h := by
  simp only [gMul, asInt, both_ss, orNext_some]
  rw [iff_t (by unfold small; rw [decide_eq_true h0, decide_eq_true h1]; simp)]
theorem gMul_intL {i j : Int} (h0 : -(2 ^ 64) < i) (h1 : i < 2 ^ 64) (h : LH) : gMul (.val (.int i)) (.val (.int j)) h = .ok (.val (.int (i * j))) h := by
  simp only [gMul, asInt, both_ss, orNext_some]
  rw [iff_t (by unfold small; rw [decide_eq_true h0, decide_eq_true h1]; simp)]
@[simp] theorem gIs_v (neg : Bool) (d : D) (h : LH) : gIs neg (.val d) (.val .none) h = .ok (.val (.bool (neg ^^ match d with | .none => true | _ => false))) h := by
  cases d <;> rfl
@[simp] theorem gLen_str {s : Str} (hs : s.length ≤ sizeLine) (h : LH) : gLen [.val (.str s)] h = .ok (.val (.int s.length)) h := by simp [gLen, hs]
@[simp] theorem gLen_list (l : List D) (h : LH) : gLen [.val (.list l)] h = .ok (.val (.int l.length)) h := (rfl)
@[simp] theorem gLen_tuple (l : List D) (h : LH) : gLen [.val (.tuple l)] h = .ok (.val (.int l.length)) h := (rfl)
@[simp] theorem gLen_own (l : List D) (h : LH) : gLen [.own l] h = .ok (.val (.int l.length)) h := (rfl)
@[simp] theorem gLen_scr (l : List Int) (h : LH) : gLen [.scr l] h = .ok (.val (.int l.length)) h := (rfl)
@[simp] theorem gInt_int (i : Int) (h : LH) : gInt [.val (.int i)] h = .ok (.val (.int i)) h := (rfl)
@[simp] theorem gTuple_list (l : List D) (h : LH) : gTuple [.val (.list l)] h = .ok (.val (.tuple l)) h := (rfl)
theorem gAll_map (bs : List Bool) (h : LH) : gAll [.val (.list (bs.map PyData.bool))] h = .ok (.val (.bool (bs.all id))) h := by simp [gAll]
theorem gAny_map (bs : List Bool) (h : LH) : gAny [.val (.list (bs.map PyData.bool))] h = .ok (.val (.bool (bs.any id))) h := by simp [gAny]
end U
/-! P1: loops over data, general. -/
namespace U
open PySem PySem.Spec PyProof.Rows L2
/-- a loop that ends by itself -/
theorem forL_inv {ftg : D → DS → Option DS} {fb : SF} (I : Nat → DS → LH → Prop) (items : List D)
    (step : ∀ i x ds h, items[i]? = some x → I i ds h → ∃ ds1, ftg x ds = some ds1 ∧ ∃ ds2 h2, (fb ds1 h = .nx ds2 h2 ∨ fb ds1 h = .ct ds2 h2) ∧ I (i + 1) ds2 h2) :
    ∀ (n i : Nat) (ds : DS) (h : LH), i + n = items.length → I i ds h → ∃ ds' h', forL ftg fb (items.drop i) ds h = .nx ds' h' ∧ I items.length ds' h'
  | 0, i, ds, h, e, z => by
    have e1 : i = items.length := by omega
    subst e1
    rw [List.drop_length]
    exact ⟨ds, h, rfl, z⟩
  | n + 1, i, ds, h, e, z => by
    have hi : i < items.length := by omega
    obtain ⟨ds1, e1, ds2, h2, e2, z2⟩ := step i items[i] ds h (List.getElem?_eq_getElem hi) z
    obtain ⟨ds', h', e3, z3⟩ := forL_inv I items step n (i + 1) ds2 h2 (by omega) z2
    rw [List.drop_eq_getElem_cons hi]
    refine ⟨ds', h', ?_, z3⟩
    show orBadS (ftg items[i] ds) _ = _
    rw [e1]
    show (match fb ds1 h with
      | .nx ds2 h2 => forL ftg fb (items.drop (i + 1)) ds2 h2
      | .ct ds2 h2 => forL ftg fb (items.drop (i + 1)) ds2 h2
      | .bk ds2 h2 => .nx ds2 h2
      | o => o) = _
    rcases e2 with e2 | e2 <;> rw [e2] <;> exact e3
theorem for_inv {ftg : D → DS → Option DS} {fb : SF} (I : Nat → DS → LH → Prop) {items : List D} {ds : DS} {h : LH} (z : I 0 ds h)
    (step : ∀ i x ds h, items[i]? = some x → I i ds h → ∃ ds1, ftg x ds = some ds1 ∧ ∃ ds2 h2, (fb ds1 h = .nx ds2 h2 ∨ fb ds1 h = .ct ds2 h2) ∧ I (i + 1) ds2 h2) :
    ∃ ds' h', forL ftg fb items ds h = .nx ds' h' ∧ I items.length ds' h' := by
  have := forL_inv I items step items.length 0 ds h (by omega) z
  rwa [List.drop_zero] at this
theorem sq_nx {f g : SF} {ds ds1 : DS} {h h1 : LH} {r : SO} (e : f ds h = .nx ds1 h1) (k : g ds1 h1 = r) : sSeq f g ds h = r := by unfold sSeq; rw [e]; exact k
theorem sq_rt {f g : SF} {ds : DS} {s : SV} {h h1 : LH} (e : f ds h = .rt s h1) : sSeq f g ds h = .rt s h1 := by unfold sSeq; rw [e]
theorem for_it {fi : DS → LH → Out (List D)} {tg : D → DS → Option DS} {fb : SF} {ds : DS} {h h1 : LH} {items : List D} {r : SO} (e : fi ds h = .ok items h1) (k : forL tg fb items ds h1 = r) : sFor fi tg fb ds h = r := by unfold sFor; rw [e]; exact k
theorem tNot_ok {f : DS → LH → Out Bool} {ds : DS} {h h1 : LH} {b : Bool} (e : f ds h = .ok b h1) : tNot' f ds h = .ok (!b) h1 := by rw [u_tNot_, e, Out.bind_ok]
theorem tOr_ok {f g : DS → LH → Out Bool} {ds : DS} {h : LH} {a b : Bool} (e : f ds h = .ok a h) (k : g ds h = .ok b h) : tOr' f g ds h = .ok (a || b) h := by rw [u_tOr_, e, Out.bind_ok]; cases a; exact k; rfl
theorem tAnd_ok {f g : DS → LH → Out Bool} {ds : DS} {h : LH} {a b : Bool} (e : f ds h = .ok a h) (k : g ds h = .ok b h) : tAnd' f g ds h = .ok (a && b) h := by rw [u_tAnd_, e, Out.bind_ok]; cases a; rfl; exact k
theorem tOr_t {f g : DS → LH → Out Bool} {ds : DS} {h h1 : LH} (e : f ds h = .ok true h1) : tOr' f g ds h = .ok true h1 := by rw [u_tOr_, e]; rfl
theorem tAnd_f {f g : DS → LH → Out Bool} {ds : DS} {h h1 : LH} (e : f ds h = .ok false h1) : tAnd' f g ds h = .ok false h1 := by rw [u_tAnd_, e]; rfl
theorem tOf_ok {f : DS → LH → Out SV} {ds : DS} {h h1 : LH} {b : Bool} (e : f ds h = .ok (.val (.bool b)) h1) : tOf f ds h = .ok b h1 := by rw [u_tOf, e]; rfl
theorem tTru_b {f : DS → LH → Out SV} {ds : DS} {h h1 : LH} {b : Bool} (e : f ds h = .ok (.val (.bool b)) h1) : tTru f ds h = .ok b h1 := by rw [u_tTru, e]; rfl
theorem si_t {t : DS → LH → Out Bool} {f g : SF} {ds : DS} {h h1 : LH} {r : SO} (e : t ds h = .ok true h1) (k : f ds h1 = r) : sIf t f g ds h = r := by rw [u_sIf, e]; exact k
theorem si_f {t : DS → LH → Out Bool} {f g : SF} {ds : DS} {h h1 : LH} {r : SO} (e : t ds h = .ok false h1) (k : g ds h1 = r) : sIf t f g ds h = r := by rw [u_sIf, e]; exact k
/-- a guard: if .. return -/
theorem guard_t {t : DS → LH → Out Bool} {f g : SF} {ds : DS} {h h1 h2 : LH} {s : SV} (e : t ds h = .ok true h1) (k : f ds h1 = .rt s h2) : sSeq (sIf t f sNil) g ds h = .rt s h2 := sq_rt (si_t e k)
theorem guard_f {t : DS → LH → Out Bool} {f g : SF} {ds : DS} {h h1 : LH} {r : SO} (e : t ds h = .ok false h1) (k : g ds h1 = r) : sSeq (sIf t f sNil) g ds h = r := sq_nx (si_f e rfl) k
theorem set_ok {i : Nat} {fe : DS → LH → Out SV} {g : SF} {ds : DS} {h h1 : LH} {s : SV} {r : SO} (e : fe ds h = .ok s h1) (p : storeB s = true) (k : g (ds.set i (some s)) h1 = r) : sSeq (sSet i fe) g ds h = r :=
  sq_nx (by rw [u_sSet, e]; exact if_pos p) k
theorem ret_ok {fe : DS → LH → Out SV} {ds : DS} {h h1 : LH} {s : SV} (e : fe ds h = .ok s h1) (p : plainS s = true) : sRet fe ds h = .rt s h1 := by rw [u_sRet, e]; exact if_pos p
/-- a body's end as a call's -/
def fin : SO → Out SV
  | .nx _ h => .ok (.val .none) h
  | .rt s h => .ok s h
  | .exc x _ h => .exc x h
  | _ => .bad
@[simp] theorem fin_nx (ds : DS) (h : LH) : fin (.nx ds h) = .ok (.val .none) h := (rfl)
@[simp] theorem fin_rt (s : SV) (h : LH) : fin (.rt s h) = .ok s h := (rfl)
@[simp] theorem fin_exc (x : XV) (ds : DS) (h : LH) : fin (.exc x ds h) = .exc x h := (rfl)
theorem run_fin {m : Nat} {fb : SF} {xs : List SV} {h : LH} {ds : DS} (e : xs.map some ++ List.replicate (m - xs.length) none = ds) : runOf m fb xs h = fin (fb ds h) := by
  unfold runOf; rw [e]; cases fb ds h <;> rfl
theorem run_rt {m : Nat} {fb : SF} {xs : List SV} {h h1 : LH} {ds : DS} {s : SV} (e0 : xs.map some ++ List.replicate (m - xs.length) none = ds) (e : fb ds h = .rt s h1) : runOf m fb xs h = .ok s h1 := by
  rw [run_fin e0, e]; rfl
theorem range_get {n i : Nat} {x : D} (h : (rangeD 0 n)[i]? = some x) : i < n ∧ x = .int i := by
  unfold rangeD at h
  rw [List.getElem?_map] at h
  by_cases hi : i < n
  · rw [List.getElem?_range hi] at h
    refine ⟨hi, ?_⟩
    have := Option.some.inj h
    rw [← this]
    show PyData.int (0 + _) = _
    rw [Int.zero_add]
  · rw [List.getElem?_eq_none (by rw [List.length_range]; omega)] at h
    cases h
@[simp] theorem range_len (lo : Int) (n : Nat) : (rangeD lo n).length = n := by unfold rangeD; rw [List.length_map, List.length_range]
/-- a comprehension's invariant: heaps thread through, results collect -/
theorem compL_inv {tg : D → DS → Option DS} {tt : DS → LH → Out Bool} {fe : DS → LH → Out SV} {ds : DS} (I : List D → LH → Prop) :
    ∀ (items : List D) (h : LH) (acc : List D), I acc h →
    (∀ x acc h, x ∈ items → I acc h → ∃ ds1, tg x ds = some ds1 ∧ ∃ b h1, tt ds1 h = .ok b h1 ∧
      ((b = false ∧ I acc h1) ∨ (b = true ∧ ∃ d h2, fe ds1 h1 = .ok (.val d) h2 ∧ I (acc ++ [d]) h2))) →
    ∃ l h', compL tg tt fe ds items h = .ok l h' ∧ I (acc ++ l) h'
  | [], h, acc, z, _ => ⟨[], h, rfl, by rw [List.append_nil]; exact z⟩
  | x :: r, h, acc, z, H => by
    obtain ⟨ds1, e1, b, h1, e2, q⟩ := H x acc h (List.mem_cons_self) z
    have H' := fun y acc h hy => H y acc h (List.mem_cons_of_mem x hy)
    rcases q with ⟨rfl, z1⟩ | ⟨rfl, d, h2, e3, z1⟩
    · obtain ⟨l, h', e4, z2⟩ := compL_inv I r h1 acc z1 H'
      refine ⟨l, h', ?_, z2⟩
      unfold compL
      rw [e1, orBad_some, e2, Out.calm_ok, Out.bind_ok]
      exact e4
    · obtain ⟨l, h', e4, z2⟩ := compL_inv I r h2 (acc ++ [d]) z1 H'
      refine ⟨d :: l, h', ?_, by rw [List.append_assoc] at z2; exact z2⟩
      unfold compL
      rw [e1, orBad_some, e2, Out.calm_ok, Out.bind_ok]
      show ((fe ds1 h1).calm.bind _) = _
      rw [e3, Out.calm_ok, Out.bind_ok]
      show ((compL tg tt fe ds r h2).bind _) = _
      rw [e4, Out.bind_ok]
theorem comp_inv {tg : D → DS → Option DS} {tt : DS → LH → Out Bool} {fe : DS → LH → Out SV} {ds : DS} {items : List D} {h : LH} (I : List D → LH → Prop) (z : I [] h)
    (H : ∀ x acc h, x ∈ items → I acc h → ∃ ds1, tg x ds = some ds1 ∧ ∃ b h1, tt ds1 h = .ok b h1 ∧
      ((b = false ∧ I acc h1) ∨ (b = true ∧ ∃ d h2, fe ds1 h1 = .ok (.val d) h2 ∧ I (acc ++ [d]) h2))) :
    ∃ l h', compL tg tt fe ds items h = .ok l h' ∧ I l h' := by
  have := compL_inv I items h [] z H
  simpa using this
theorem atI_nat {α : Type} (l : List α) (i : Nat) (h : i < l.length) : atI l (i : Int) = some l[i] := by
  unfold atI ixN
  simp [h]
theorem gLst_ok {xs : List SV} {ds : List D} (e : asVals xs = some ds) (hz : ds.length ≤ sizeLine) (h : LH) : U.gLst xs h = .ok (.val (.list ds)) h := by
  unfold U.gLst
  rw [e]
  exact iff_t hz _
theorem gIxA_list {l : List D} {i : Nat} (hi : i < l.length) (h : LH) : gIxA (.val (.list l)) (.val (.int i)) h = .ok (.val l[i]) h := by
  show orBad (atI l i) _ = _
  rw [U.atI_nat l i hi]
  rfl
theorem gIxA_tuple {l : List D} {i : Nat} (hi : i < l.length) (h : LH) : gIxA (.val (.tuple l)) (.val (.int i)) h = .ok (.val l[i]) h := by
  show orBad (atI l i) _ = _
  rw [U.atI_nat l i hi]
  rfl
theorem gIxA_list0 (d : D) (l : List D) (h : LH) : gIxA (.val (.list (d :: l))) (.val (.int 0)) h = .ok (.val d) h := gIxA_list (l := d :: l) (i := 0) (by simp) h
theorem gIxA_list1 (c d : D) (l : List D) (h : LH) : gIxA (.val (.list (c :: d :: l))) (.val (.int 1)) h = .ok (.val d) h := gIxA_list (l := c :: d :: l) (i := 1) (by simp) h
/-! ### expressions whose parts are known -/
section
variable {ds : DS} {h h1 h2 h3 : LH} {x y z : SV} {r : Out SV} {fa fb fc : DS → LH → Out SV}
theorem bin_ok {g : SV → SV → LH → Out SV} (ea : fa ds h = .ok x h1) (eb : fb ds h1 = .ok y h2) (e : g x y h2 = r) : eBin g fa fb ds h = r := by rw [u_eBin, ea, Out.bind_ok, eb, Out.bind_ok]; exact e
theorem b1_ok {g : List SV → LH → Out SV} (ea : fa ds h = .ok x h1) (e : g [x] h1 = r) : eArgs g (aCons fa aNil) ds h = r := by rw [u_eArgs, u_aCons, ea]; exact e
theorem b2_ok {g : List SV → LH → Out SV} (ea : fa ds h = .ok x h1) (eb : fb ds h1 = .ok y h2) (e : g [x, y] h2 = r) : eArgs g (aCons fa (aCons fb aNil)) ds h = r := by rw [u_eArgs, u_aCons, ea, Out.bind_ok, u_aCons, eb]; exact e
theorem b3_ok {g : List SV → LH → Out SV} (ea : fa ds h = .ok x h1) (eb : fb ds h1 = .ok y h2) (ec : fc ds h2 = .ok z h3) (e : g [x, y, z] h3 = r) : eArgs g (aCons fa (aCons fb (aCons fc aNil))) ds h = r := by rw [u_eArgs, u_aCons, ea, Out.bind_ok, u_aCons, eb, Out.bind_ok, u_aCons, ec]; exact e
theorem c1_ok {g : List SV → LH → Out SV} (ea : fa ds h = .ok x h1) (e : g [x] h1 = r) : eArgs (nArgs 1 g) (aCons fa aNil) ds h = r := b1_ok ea ((iff_t rfl _).trans e)
theorem c2_ok {g : List SV → LH → Out SV} (ea : fa ds h = .ok x h1) (eb : fb ds h1 = .ok y h2) (e : g [x, y] h2 = r) : eArgs (nArgs 2 g) (aCons fa (aCons fb aNil)) ds h = r := b2_ok ea eb ((iff_t rfl _).trans e)
theorem c3_ok {g : List SV → LH → Out SV} (ea : fa ds h = .ok x h1) (eb : fb ds h1 = .ok y h2) (ec : fc ds h2 = .ok z h3) (e : g [x, y, z] h3 = r) : eArgs (nArgs 3 g) (aCons fa (aCons fb (aCons fc aNil))) ds h = r := b3_ok ea eb ec ((iff_t rfl _).trans e)
theorem s1_ok {g : Str → SV → LH → Out SV} {a : Str} (ea : fa ds h = .ok (.val (.str a)) h1) (eb : fb ds h1 = .ok y h2) (e : g a y h2 = r) : eS1 g fa fb ds h = r := by
  rw [u_eS1, ea]
  show ((fb ds h1).bind _) = _
  rw [eb]
  exact e
theorem sl_to {i : Int} (ea : fa ds h = .ok x h1) (eb : fb ds h1 = .ok (.val (.int i)) h2) (e : gSl x none (some i) h2 = r) : eSl fa oNone (oSome fb) ds h = r := by
  rw [u_eSl, ea, Out.bind_ok, u_oNone, Out.bind_ok, u_oSome, eb]; exact e
theorem sl_from {i : Int} (ea : fa ds h = .ok x h1) (eb : fb ds h1 = .ok (.val (.int i)) h2) (e : gSl x (some i) none h2 = r) : eSl fa (oSome fb) oNone ds h = r := by
  rw [u_eSl, ea, Out.bind_ok, u_oSome, eb]; exact e
end
theorem fz_ok {i : Nat} {f : SF} {ds : DS} {h : LH} {l : List D} {r : SO} (e : ownAt ds i = some l) (k : f (ds.set i (some (.val (.list l)))) h = r) : sFz i f ds h = r := by rw [u_sFz, e]; exact k
theorem okR_small {j : Int} (h0 : 0 ≤ j) (h1 : j ≤ 1000000) : okR j := by unfold okR; omega
theorem range1_ok {fa : DS → LH → Out SV} {ds : DS} {h h1 : LH} {j : Int} {l : List D} (e : fa ds h = .ok (.val (.int j)) h1) (ok : okR j) (el : rangeD 0 j.toNat = l) : iRange1 (aCons fa aNil) ds h = .ok l h1 := by
  rw [u_iRange1, u_aCons, e]
  exact (iff_t ok _).trans (by rw [el])
theorem seq_ok {fa : DS → LH → Out SV} {ds : DS} {h h1 : LH} {l : List D} (e : fa ds h = .ok (.val (.list l)) h1) : iSeq fa ds h = .ok l h1 := by rw [u_iSeq, e]; rfl
theorem app_ok {i : Nat} {fe : DS → LH → Out SV} {ds : DS} {h h1 : LH} {l : List D} {d : D} (e : fe ds h = .ok (.val d) h1) (eo : ownAt ds i = some l) (hz : l.length < sizeLine) : sApp i fe ds h = .nx (ds.set i (some (.own (l ++ [d])))) h1 := by
  rw [u_sApp, eo]
  show ((fe ds h).so _ _) = _
  rw [e]
  exact if_pos hz
theorem aCons_ok {fa : DS → LH → Out SV} {fs : DS → LH → Out (List SV)} {ds : DS} {h h1 h2 : LH} {x : SV} {xs : List SV} (ea : fa ds h = .ok x h1) (es : fs ds h1 = .ok xs h2) : aCons fa fs ds h = .ok (x :: xs) h2 := by rw [u_aCons, ea, Out.bind_ok, es]; rfl
theorem args_ok {g : List SV → LH → Out SV} {fs : DS → LH → Out (List SV)} {ds : DS} {h h1 : LH} {xs : List SV} {r : Out SV} (e : fs ds h = .ok xs h1) (k : g xs h1 = r) : eArgs g fs ds h = r := by rw [u_eArgs, e]; exact k
theorem lc_ok {fi : DS → LH → Out (List D)} {tg : D → DS → Option DS} {tt : DS → LH → Out Bool} {fe : DS → LH → Out SV} {vs : List Nat} {ds ds1 : DS} {h h1 h2 : LH} {items l : List D} (e : fi ds h = .ok items h1) (hz : items.length ≤ sizeLine)
    (ed : dwipe ds vs = ds1) (k : compL tg tt fe ds1 items h1 = .ok l h2) : fLc fi tg tt fe vs ds h = .ok l h2 := by rw [u_fLc, e, Out.bind_ok, ed]; exact (iff_t hz _).trans k
theorem fz_e {f : DS → LH → Out (List D)} {ds : DS} {h h1 : LH} {l : List D} (e : f ds h = .ok l h1) : eFz f ds h = .ok (.val (.list l)) h1 := by rw [u_eFz, e]; rfl
theorem map_vals (l : List D) : asVals (l.map SV.val) = some l := by
  induction l with
  | nil => rfl
  | cons d r ih => rw [List.map_cons, asVals, ih]; rfl
theorem gMul_list {l : List D} {i : Int} (h0 : 0 ≤ i) (h1 : i < 2 ^ 63) (hz : l.length * i.toNat ≤ sizeLine) (h : LH) : gMul (.val (.list l)) (.val (.int i)) h = .ok (.val (.list (List.replicate i.toNat l).flatten)) h := by
  show iff (0 ≤ i ∧ i < 2 ^ 63 ∧ l.length * i.toNat ≤ sizeLine) (Out.ok (SV.val (.list (List.replicate i.toNat l).flatten)) h) = _
  exact iff_t ⟨h0, h1, hz⟩ _
theorem par_ok {i j : Nat} {fs : DS → LH → Out (List SV)} {g : SF} {ds : DS} {h h1 : LH} {x y : SV} {r : SO} (e : fs ds h = .ok [x, y] h1) (p : storeB x = true) (q : storeB y = true) (k : g ((ds.set i (some x)).set j (some y)) h1 = r) : sSeq (sPar i j fs) g ds h = r :=
  sq_nx (show sPar i j fs ds h = _ from by
    unfold sPar
    rw [e]
    exact if_pos (by rw [p, q]; rfl)) k
theorem eIf_t {t : DS → LH → Out Bool} {fa fb : DS → LH → Out SV} {ds : DS} {h h1 : LH} {r : Out SV} (e : t ds h = .ok true h1) (k : fa ds h1 = r) : eIf t fa fb ds h = r := by rw [u_eIf, e]; exact k
theorem eIf_f {t : DS → LH → Out Bool} {fa fb : DS → LH → Out SV} {ds : DS} {h h1 : LH} {r : Out SV} (e : t ds h = .ok false h1) (k : fb ds h1 = r) : eIf t fa fb ds h = r := by rw [u_eIf, e]; exact k
theorem tOr_f {f g : DS → LH → Out Bool} {ds : DS} {h h1 : LH} {r : Out Bool} (e : f ds h = .ok false h1) (k : g ds h1 = r) : tOr' f g ds h = r := by rw [u_tOr_, e]; exact k
theorem tAnd_t {f g : DS → LH → Out Bool} {ds : DS} {h h1 : LH} {r : Out Bool} (e : f ds h = .ok true h1) (k : g ds h1 = r) : tAnd' f g ds h = r := by rw [u_tAnd_, e]; exact k
theorem pure_ok {run : RF} {xs : List SV} {d : D} {h' : LH} (e : run xs [] = .ok (.val d) h') (ha : xs.all isVal = true) (h : LH) : gPure run xs h = .ok (.val d) h := by
  unfold gPure
  rw [e]
  exact iff_t ha _
theorem pure_exc {run : RF} {xs : List SV} {x : XV} {h' : LH} (e : run xs [] = .exc x h') (ha : xs.all isVal = true) (h : LH) : gPure run xs h = .exc x h := by
  unfold gPure
  rw [e]
  exact iff_t ha _
theorem ok_fin {o : SO} {s : SV} {h : LH} (e : o = .rt s h) : fin o = .ok s h := by rw [e]; rfl
theorem andV_t {fa fb : DS → LH → Out SV} {ds : DS} {h h1 : LH} {r : Out SV} (ea : fa ds h = .ok (.val (.bool true)) h1) (k : fb ds h1 = r) : eAndV fa fb ds h = r := by rw [u_eAndV, ea]; exact k
theorem andV_f {fa fb : DS → LH → Out SV} {ds : DS} {h h1 : LH} (ea : fa ds h = .ok (.val (.bool false)) h1) : eAndV fa fb ds h = .ok (.val (.bool false)) h1 := by rw [u_eAndV, ea]; rfl
theorem orV_t {fa fb : DS → LH → Out SV} {ds : DS} {h h1 : LH} (ea : fa ds h = .ok (.val (.bool true)) h1) : eOrV fa fb ds h = .ok (.val (.bool true)) h1 := by rw [u_eOrV, ea]; rfl
theorem orV_f {fa fb : DS → LH → Out SV} {ds : DS} {h h1 : LH} {r : Out SV} (ea : fa ds h = .ok (.val (.bool false)) h1) (k : fb ds h1 = r) : eOrV fa fb ds h = r := by rw [u_eOrV, ea]; exact k
theorem notV_ok {fa : DS → LH → Out SV} {ds : DS} {h h1 : LH} {b : Bool} (ea : fa ds h = .ok (.val (.bool b)) h1) : eNotV fa ds h = .ok (.val (.bool (!b))) h1 := by rw [u_eNotV, ea]; rfl
theorem andV_ok {fa fb : DS → LH → Out SV} {ds : DS} {h : LH} {a b : Bool} (ea : fa ds h = .ok (.val (.bool a)) h) (eb : fb ds h = .ok (.val (.bool b)) h) : eAndV fa fb ds h = .ok (.val (.bool (a && b))) h := by
  cases a
  · exact andV_f ea
  · exact andV_t ea eb
theorem orV_ok {fa fb : DS → LH → Out SV} {ds : DS} {h : LH} {a b : Bool} (ea : fa ds h = .ok (.val (.bool a)) h) (eb : fb ds h = .ok (.val (.bool b)) h) : eOrV fa fb ds h = .ok (.val (.bool (a || b))) h := by
  cases a
  · exact orV_f ea eb
  · exact orV_t ea
theorem own_ok {i : Nat} {fl : DS → LH → Out (List D)} {g : SF} {ds : DS} {h h1 : LH} {l : List D} {r : SO} (e : fl ds h = .ok l h1) (k : g (ds.set i (some (.own l))) h1 = r) : sSeq (sOwn i fl) g ds h = r :=
  sq_nx (show sOwn i fl ds h = _ from by rw [u_sOwn, e]; rfl) k
/-- a comprehension that leaves the heap alone, item by item -/
theorem compL_map2 {α : Type} {tg : D → DS → Option DS} {fe : DS → LH → Out SV} {ds : DS} {h : LH} (f g : α → D) : ∀ l : List α,
    (∀ x ∈ l, ∃ ds1, tg (f x) ds = some ds1 ∧ fe ds1 h = .ok (.val (g x)) h) → compL tg tYes' fe ds (l.map f) h = .ok (l.map g) h
  | [], _ => rfl
  | x :: r, H => by
    obtain ⟨ds1, e1, e2⟩ := H x (List.mem_cons_self)
    have ih := compL_map2 f g r fun y hy => H y (List.mem_cons_of_mem _ hy)
    rw [List.map_cons, List.map_cons]
    unfold compL
    rw [e1, orBad_some]
    show ((fe ds1 h).calm.bind _) = _
    rw [e2, Out.calm_ok, Out.bind_ok]
    show ((compL tg tYes' fe ds (r.map f) h).bind _) = _
    rw [ih]
    rfl
theorem call_ok {run : RF} {xs : List SV} {d : D} {h h' : LH} (e : run xs h = .ok (.val d) h') (ha : xs.all handB = true) : gCall run xs h = .ok (.val d) h' := by
  unfold gCall
  rw [e]
  exact iff_t ha _
theorem call_ref {run : RF} {xs : List SV} {n : Nat} {h h' : LH} (e : run xs h = .ok (.ref n) h') (ha : xs.all handB = true) : gCall run xs h = .ok (.ref n) h' := by
  unfold gCall
  rw [e]
  exact iff_t ha _
theorem compL_cons {tg : D → DS → Option DS} {fe : DS → LH → Out SV} {ds ds1 : DS} {x d : D} {r l : List D} {h h1 h2 : LH} (et : tg x ds = some ds1) (ee : fe ds1 h = .ok (.val d) h1) (k : compL tg tYes' fe ds r h1 = .ok l h2) : compL tg tYes' fe ds (x :: r) h = .ok (d :: l) h2 := by
  unfold compL
  rw [et, orBad_some]
  show ((fe ds1 h).calm.bind _) = _
  rw [ee, Out.calm_ok, Out.bind_ok]
  show ((compL tg tYes' fe ds r h1).bind _) = _
  rw [k]
  rfl
end U
/-! T1: several except clauses, with names or without. -/
namespace U
open PySem PySem.Spec PyProof.Rows L2
/-- one clause: its class, its name's slot, what its suite asks -/
structure Cl where
  c : Value
  i : Option Nat
  ts : Addr → Value → Option Addr → TS
def putI : Option Nat → L2.St → Option V → L2.St
  | none, st, _ => st
  | some i, st, v => st.set i v
def endI (i : Option Nat) (D : Ends) : Ends := { nx := fun st H => D.nx (putI i st none) H, rt := D.rt, bk := fun st H => D.bk (putI i st none) H, ct := fun st H => D.ct (putI i st none) H }
def wCl (K : PySem.W.Frag) (Wo : WX) (D : Ends) : List Cl → WX
  | [] => Wo
  | k :: r => fun cls d st H => ∃ b, PySem.W.exmOne K cls k.c = some b ∧ (b = true → ∀ a, H a = none → k.ts a cls d (endI k.i D) (putI k.i st (some (.ref a))) H) ∧ (b = false → wCl K Wo D r cls d st H)
/-- a suite's rule in the context of its clause -/
def SuiteOk (X : Cx) (body : List Stmt) (ts : Addr → Value → Option Addr → TS) : Prop :=
  ∀ (a : Addr) (ob : Obj) (cls : Value) (d : Option Addr) (pn : List (Addr × Obj)), Zc cls d ob → (∃ fs, ob.data = .fields fs) → PSs (X.suite a ((a, ob) :: pn)) body (ts a cls d)
inductive ClsOk (X : Cx) : List ExceptHandler → List Cl → Prop
  | nil : ClsOk X [] []
  | bare {x : Str} {k : Cl} {s : Stmt} {body : List Stmt} {p q : Pos} {hs : List ExceptHandler} {l : List Cl} (hc : Names X x k.c) (hi : k.i = none) (hb : SuiteOk X (s :: body) k.ts) (r : ClsOk X hs l) :
      ClsOk X (.ExceptHandler (some (.Name x p)) none (s :: body) q :: hs) (k :: l)
  | named {x n : Str} {i : Nat} {k : Cl} {s : Stmt} {body : List Stmt} {p q : Pos} {hs : List ExceptHandler} {l : List Cl} (hc : Names X x k.c) (hi : k.i = some i) (hN : X.N[i]? = some n) (hl : X.env.kindOf n = some .local) (hb : SuiteOk X (s :: body) k.ts) (r : ClsOk X hs l) :
      ClsOk X (.ExceptHandler (some (.Name x p)) (some n) (s :: body) q :: hs) (k :: l)
/-- a caught exception's state, ahead of a clause -/
structure Air (X : Cx) (B : Heap) (sI : Shared) (pins : List (Addr × Obj)) (st : L2.St) (H : Hp) (a : Addr) (cls : Value) (d : Option Addr) (s : Shared) : Prop where
  i0 : Inv X pins st H sI
  nb : ∀ b o, sI.heap.get? b = some o → b ∉ frs X.stack → B.get? b = some o
  up : sI.heap.UpToSlots s.heap
  fl : HandSPX.FlyingZ B (X.env :: X.outer) a (Zc cls d) s.heap
  na : H a = none
  os : s.os = sI.os
  ag : AllBare s.gens
section
variable {X : Cx} {B : Heap} {sI s : Shared} {pins : List (Addr × Obj)} {st : L2.St} {H : Hp} {a : Addr} {cls : Value} {d : Option Addr}
theorem Air.inv (w : Air X B sI pins st H a cls d s) : Inv X pins st H s := w.i0.landed w.nb w.fl.1 w.up w.os w.ag
theorem Air.off (w : Air X B sI pins st H a cls d s) : ∃ ob fs, s.heap.get? a = some ob ∧ Zc cls d ob ∧ ob.data = .fields fs ∧ a ∉ frs (X.env :: X.outer) := by
  obtain ⟨ob, fs, e1, e2, e3⟩ := w.fl.there
  refine ⟨ob, fs, e1, e2, e3, fun hm => ?_⟩
  obtain ⟨m, o, e4, e5⟩ := w.fl.2.2.1.mem hm
  have := e1.symm.trans e4
  cases this
  exact e5 _ e3
theorem Air.su (hf : X.env.frame = some X.env.locals) (w : Air X B sI pins st H a cls d s) : ∃ ob, Inv (X.suite a ((a, ob) :: (X.pn ++ pins))) [] st H s ∧ Zc cls d ob ∧ (∃ fs, ob.data = .fields fs) ∧ s.heap.get? a = some ob := by
  obtain ⟨ob, fs, e1, e2, e3, no⟩ := w.off
  have n1 : a ≠ X.env.locals := fun z => no (List.mem_filterMap.mpr ⟨X.env, by simp, by rw [hf, z]⟩)
  have n2 : a ∉ X.fs := fun hm => by
    obtain ⟨v, hv, q⟩ := List.mem_filterMap.mp hm
    exact no (List.mem_filterMap.mpr ⟨v, by simp [hv], q⟩)
  exact ⟨ob, w.inv.suite e1 e3 w.na n1 n2, e2, ⟨fs, e3⟩, e1⟩
theorem Air.again {s2 : Shared} (w : Air X B sI pins st H a cls d s) (hh : s2 = { s with heap := s2.heap }) (fl : HandSPX.FlyingZ B (X.env :: X.outer) a (Zc cls d) s2.heap) (up : s.heap.UpToSlots s2.heap) : Air X B sI pins st H a cls d s2 :=
  ⟨w.i0, w.nb, w.up.trans up, fl, w.na, by rw [hh]; exact w.os, by rw [hh]; exact w.ag⟩
/-- no clause is left -/
theorem Air.fall {D : Ends} {Wo : WX} (hs : X.stack = X.env :: X.outer) (hf : X.env.frame = some X.env.locals) (tk : Takes X Wo) (w : Air X B sI pins st H a cls d s) (q : Wo cls d st H) :
    wpAny (model X.prog X.w) X.A (handleBy (.ref a) X.env []) (SP X pins D) X.xe s := by
  refine wpAny_handleBy_nil ?_
  obtain ⟨k1, k2, k3, ob, fs, T, oT, t', e1, e2, e3, e4, e5⟩ := id w.fl
  unfold PySem.passOn
  refine wpAny_bind (wpAny_field e1 e3 e4 ?_)
  have hn : ¬ ((Value.ref T == Value.none) = true) := by simp
  rw [if_neg hn]
  have key : wpAny (model X.prog X.w) X.A (setFlight (.ref a) X.env.frame) (fun _ z => wpAny (model X.prog X.w) X.A (throw (.ref a) : Sem Flow) (SP X pins D) X.xe z) X.xe s := by
    rw [hf]
    refine HandSPX.setFlight_upZ w.fl fun h4 g4 u4 => wpAny_throw (tk _ _ ⟨a, B, sI, pins, st, H, cls, d, rfl, w.i0, w.nb, w.up.trans u4, ?_, w.na, w.os, w.ag, q⟩)
    rw [hs]
    exact .inr (.inr g4)
  first
    | exact wpAny_bind (wpAny_pure (wpAny_bind key))
    | exact wpAny_bind key
/-- the clause's class -/
theorem Air.ask {k : Cl} {x : Str} {np : Pos} {ob : Obj} {pn : List (Addr × Obj)} (S : Inv (X.suite a ((a, ob) :: pn)) [] st H s) (hc : Names X x k.c) {P : Value → Shared → Prop} {F : Value → Shared → Prop} (q : P k.c s) :
    wpAny (model X.prog X.w) (X.A.mark (some (.ref a))) (eval (.Name x np) X.env) P F s := by
  obtain ⟨g, nd, m | ⟨m, v, n⟩⟩ := hc
  · exact ld_glob (X := X.suite a ((a, ob) :: pn)) S g m q nd
  · exact ld_blt (X := X.suite a ((a, ob) :: pn)) S g m v q n nd
theorem sp_out {i : Option Nat} {D : Ends} {ob : Obj} {f : Flow} {s2 : Shared} (ok : X.Ok) (hi : i = none) (h : SP (X.suite a ((a, ob) :: (X.pn ++ pins))) [] (endI i D) f s2) : SP X pins D f s2 := by
  subst hi
  cases f with
  | next => obtain ⟨st3, H3, J, q⟩ := h; exact ⟨_, _, J.unsuite ok, q⟩
  | brk => obtain ⟨st3, H3, J, q⟩ := h; exact ⟨_, _, J.unsuite ok, q⟩
  | cont => obtain ⟨st3, H3, J, q⟩ := h; exact ⟨_, _, J.unsuite ok, q⟩
  | ret u => obtain ⟨v, st3, H3, J, r, q⟩ := h; exact ⟨_, _, _, J.unsuite ok, r, q⟩
theorem sp_outN {i : Nat} {n : Str} {D : Ends} {ob : Obj} {f : Flow} {s2 : Shared} {pos : Pos} (ok : X.Ok) (nd : X.N.Nodup) (hN : X.N[i]? = some n) (hl : X.env.kindOf n = some .local) (h : SP (X.suite a ((a, ob) :: (X.pn ++ pins))) [] (endI (some i) D) f s2) :
    wpAny (model X.prog X.w) X.A (do bindName X.env n .none; unbindBehindTheSuite X.env n pos) (fun _ z => SP X pins D f z) X.xe s2 := by
  cases f with
  | next => obtain ⟨st3, H3, J, q⟩ := h; exact gone_ok (J.unsuite ok) nd hN hl fun z K => ⟨_, _, K, q⟩
  | brk => obtain ⟨st3, H3, J, q⟩ := h; exact gone_ok (J.unsuite ok) nd hN hl fun z K => ⟨_, _, K, q⟩
  | cont => obtain ⟨st3, H3, J, q⟩ := h; exact gone_ok (J.unsuite ok) nd hN hl fun z K => ⟨_, _, K, q⟩
  | ret u => obtain ⟨v, st3, H3, J, r, q⟩ := h; exact gone_ok (J.unsuite ok) nd hN hl fun z K => ⟨_, _, _, K, r, q⟩
theorem Air.run {D : Ends} {Wo : WX} (ok : X.Ok) (nd : X.N.Nodup) (hs : X.stack = X.env :: X.outer) (hf : X.env.frame = some X.env.locals) (tk : Takes X Wo) : ∀ {l : List ExceptHandler} {cs : List Cl}, ClsOk X l cs → ∀ {s : Shared}, Air X B sI pins st H a cls d s → wCl X.K Wo D cs cls d st H →
    wpAny (model X.prog X.w) X.A (handleBy (.ref a) X.env l) (SP X pins D) X.xe s := by
  intro l cs hk
  induction hk with
  | nil => exact fun w q => w.fall hs hf tk q
  | @bare x k b0 body np pos hs2 l2 hc hi hb r ih =>
    intro s w q
    obtain ⟨b, e, yes, no⟩ := q
    obtain ⟨ob, S, hz, hd, hg⟩ := w.su hf
    refine wpAny_handleBy_cons (codeAny_handlers_test ?_) (by intro z; cases z)
    have T : PySem.W.Looks (model X.prog X.w) s.heap (typeOf (.ref a)) cls := fun A Q E s' g z => wpAny_typeOf_ref (g _ _ hg) (by rw [hz.1]; exact z)
    refine Air.ask S hc ((PySem.W.exm_one (M := model X.prog X.w) w.inv.kIn T e).here ?_)
    cases b with
    | false => exact ih w (no rfl)
    | true =>
      refine codeAny_handlers_suite (HandSPX.lands_againZ w.fl fun h4 g4 u4 => ?_)
      have w4 : Air X B sI pins st H a cls d { s with heap := h4 } := w.again rfl g4 u4
      obtain ⟨ob4, S4, hz4, hd4, hg4⟩ := w4.su hf
      have y := yes rfl a w.na
      rw [hi] at y
      exact wpAny_mono ((hb a ob4 cls d (X.pn ++ pins) hz4 hd4).run [] _ _ H _ S4 y) (fun f s6 z => sp_out ok rfl z) fun _ _ z => z.elim
  | @named x n i k b0 body np pos hs2 l2 hc hi hN hl hb r ih =>
    intro s w q
    obtain ⟨b, e, yes, no⟩ := q
    obtain ⟨ob, S, hz, hd, hg⟩ := w.su hf
    refine wpAny_handleBy_cons (codeAny_handlers_test ?_) (by intro z; cases z)
    have T : PySem.W.Looks (model X.prog X.w) s.heap (typeOf (.ref a)) cls := fun A Q E s' g z => wpAny_typeOf_ref (g _ _ hg) (by rw [hz.1]; exact z)
    refine Air.ask S hc ((PySem.W.exm_one (M := model X.prog X.w) w.inv.kIn T e).here ?_)
    cases b with
    | false => exact ih w (no rfl)
    | true =>
      refine codeAny_handlers_suite_as (HandSPX.lands_againZ w.fl fun h4 g4 u4 => ?_)
      have w4 : Air X B sI pins st H a cls d { s with heap := h4 } := w.again rfl g4 u4
      obtain ⟨ob4, S4, hz4, hd4, hg4⟩ := w4.su hf
      have y := yes rfl a w.na
      rw [hi] at y
      refine store_ok (X := X.suite a ((a, ob4) :: (X.pn ++ pins))) (v := .ref a) S4 nd hN (.inl hl) rfl (fun s5 S5 => ?_) (.inr hl)
      exact wpAny_mono ((hb a ob4 cls d (X.pn ++ pins) hz4 hd4).run [] s5 _ H _ S5 y) (fun f s6 z => sp_outN ok nd hN hl z) fun _ _ z => z.elim
end
section
variable {X : Cx} {body : List Stmt} {h0 : ExceptHandler} {hds : List ExceptHandler} {l : List Cl} {pos : Pos} {tb : WX → TS} {Wo : WX}
/-- try with several clauses, named or not -/
theorem ps_tryC (nd : X.N.Nodup) (hs : X.stack = X.env :: X.outer) (hf : X.env.frame = some X.env.locals) (tk : Takes X Wo)
    (hb : ∀ (W : WX) (pn : List (Addr × Obj)) (xe : Value → Shared → Prop), Takes (X.tr pn xe) W → PassesOwn (model X.prog X.w) X.A X.env xe → PSs (X.tr pn xe) body (tb W))
    (hh : ClsOk X (h0 :: hds) l) : PS X (.Try body (h0 :: hds) [] [] pos) (fun D st H => tb (wCl X.K Wo D l) D st H) := by
  constructor
  intro pins s st H D I h
  have ok := I.ok
  have hfr : X.A.frames = some (X.env :: X.outer) := by rw [ok.frames, hs]
  refine wpAny_Try_except (wpAny_mono ((hb (wCl X.K Wo D l) (X.pn ++ pins) (fun e s1 => wpAny (model X.prog X.w) X.A (noteFrame e X.env) (fun _ s2 => wpAny (model X.prog X.w) X.A (setFlight e none) (fun _ s3 =>
    wpAny (model X.prog X.w) X.A (handleBy e X.env (h0 :: hds)) (SP X pins D) X.xe s3) X.xe s2) X.xe s1) ?_ PassesOwn.looking).run [] s st H D (I.toTry _) h) ?_ fun e s1 he => he)
  · rintro u s1 ⟨a, B, sI, p2, st2, H2, cls, d, rfl, J, nb, up, sky, na, os, ag, w⟩
    have sky2 : Sky B (X.env :: X.outer) a (Zc cls d) X.env.locals s1.heap := by rw [← hs]; exact sky
    exact Sky.land Zc.steady hfr hf sky2 fun h3 fl3 up3 => Air.run (B := B) (sI := sI) ok nd hs hf tk hh ⟨J.ofTry ok, nb, up.trans up3, fl3, na, os, ag⟩ w
  · intro f s1 z
    cases f with
    | next => obtain ⟨st2, H2, J, q⟩ := z; exact wpAny_execs_nil ⟨st2, H2, J.ofTry ok, q⟩
    | brk => obtain ⟨st2, H2, J, q⟩ := z; exact ⟨st2, H2, J.ofTry ok, q⟩
    | cont => obtain ⟨st2, H2, J, q⟩ := z; exact ⟨st2, H2, J.ofTry ok, q⟩
    | ret u => obtain ⟨v, st2, H2, J, r, q⟩ := z; exact ⟨v, st2, H2, J.ofTry ok, r, q⟩
end
end U
/-! T2: try over data. -/
namespace U
open PySem PySem.Spec PyProof.Rows L2
/-- no slot holds an error -/
def clean (ds : DS) : Bool := ds.all fun s => match s with
  | some (.exc _) => false
  | _ => true
theorem clean_at {ds : DS} (h : clean ds = true) {i : Nat} {x : XV} : ds[i]? ≠ some (some (.exc x)) := fun e => by
  have := List.all_eq_true.mp h _ (List.mem_of_getElem? e)
  cases this
theorem RelS.any {K : PySem.W.Frag} {mg : Str → Option Value} {pn pn' : List (Addr × Obj)} {H : Hp} {mu : List Addr} {st : L2.St} {ds : DS} (r : RelS K mg pn H mu st ds) (c : clean ds = true) : RelS K mg pn' H mu st ds :=
  ⟨r.len, r.at_, fun i x h => (clean_at c h).elim⟩
def putD : Option Nat → DS → Option SV → DS
  | none, ds, _ => ds
  | some i, ds, v => ds.set i v
def outS (i : Option Nat) : SO → SO
  | .nx ds h => iffS (clean (putD i ds none) = true) (.nx (putD i ds none) h)
  | .bk ds h => iffS (clean (putD i ds none) = true) (.bk (putD i ds none) h)
  | .ct ds h => iffS (clean (putD i ds none) = true) (.ct (putD i ds none) h)
  | .rt s h => .rt s h
  | _ => .bad
abbrev ClD := Str × Option Nat × SF
def catchL (sub : Str → Str → Option Bool) (x : XV) : List ClD → DS → LH → SO
  | [], ds, h => .exc x ds h
  | k :: r, ds, h => match sub x.cls k.1 with
    | some true => outS k.2.1 (k.2.2 (putD k.2.1 ds (some (.exc x))) h)
    | some false => catchL sub x r ds h
    | none => .bad
def sTry (sub : Str → Str → Option Bool) (fb : SF) (cs : List ClD) : SF := fun ds h => iffS (clean ds = true) (match fb ds h with
  | .exc x ds' h' => iffS (clean ds' = true) (catchL sub x cs ds' h')
  | .nx ds' h' => iffS (clean ds' = true) (.nx ds' h')
  | .bk ds' h' => iffS (clean ds' = true) (.bk ds' h')
  | .ct ds' h' => iffS (clean ds' = true) (.ct ds' h')
  | .rt s h' => .rt s h'
  | .bad => .bad)
section
variable {X : Cx} {mu0 : List Addr}
abbrev noW : WX := fun _ _ _ _ => False
/-- a suite's reading: whatever else is pinned -/
def tsOf (X : Cx) (mu0 : List Addr) (f : SF) (a : Addr) (cls : Value) (d : Option Addr) : TS := fun E st H => ∃ ds mu h, (∀ (ob : Obj) (pn : List (Addr × Obj)), Zc cls d ob → (∃ us, ob.data = .fields us) → RelF (X.suite a ((a, ob) :: pn)) mu0 st ds H mu h) ∧
  ∀ (ob : Obj) (pn : List (Addr × Obj)), Zc cls d ob → AfterS (X.suite a ((a, ob) :: pn)) noW mu0 H (f ds h) E
/-- the clauses -/
inductive CM (X : Cx) (mu0 : List Addr) (sub : Str → Str → Option Bool) : List ExceptHandler → List ClD → Prop
  | nil : CM X mu0 sub [] []
  | bare {x : Str} {c : Value} {s : Stmt} {body : List Stmt} {f : SF} {p q : Pos} {hs : List ExceptHandler} {l : List ClD} (hc : Names X x c) (hsub : ∀ y cls b, X.mg y = some cls → sub y x = some b → PySem.W.exmOne X.K cls c = some b)
      (hb : ∀ (a : Addr) (ob : Obj) (pn : List (Addr × Obj)), (∃ fs, ob.data = .fields fs) → BM (X.suite a ((a, ob) :: pn)) noW mu0 (s :: body) f) (r : CM X mu0 sub hs l) :
      CM X mu0 sub (.ExceptHandler (some (.Name x p)) none (s :: body) q :: hs) ((x, none, f) :: l)
  | named {x n : Str} {i : Nat} {c : Value} {s : Stmt} {body : List Stmt} {f : SF} {p q : Pos} {hs : List ExceptHandler} {l : List ClD} (hc : Names X x c) (hsub : ∀ y cls b, X.mg y = some cls → sub y x = some b → PySem.W.exmOne X.K cls c = some b)
      (hN : X.N[i]? = some n) (hl : X.env.kindOf n = some .local)
      (hb : ∀ (a : Addr) (ob : Obj) (pn : List (Addr × Obj)), (∃ fs, ob.data = .fields fs) → BM (X.suite a ((a, ob) :: pn)) noW mu0 (s :: body) f) (r : CM X mu0 sub hs l) :
      CM X mu0 sub (.ExceptHandler (some (.Name x p)) (some n) (s :: body) q :: hs) ((x, some i, f) :: l)
theorem suite_ok {s : Stmt} {body : List Stmt} {f : SF} (hb : ∀ (a : Addr) (ob : Obj) (pn : List (Addr × Obj)), (∃ fs, ob.data = .fields fs) → BM (X.suite a ((a, ob) :: pn)) noW mu0 (s :: body) f) : SuiteOk X (s :: body) (tsOf X mu0 f) :=
  fun a ob cls d pn hz hd => PSs.imp (hb a ob pn hd).pss fun E st H ⟨ds, mu, h, r, q⟩ => ⟨ds, mu, h, r ob pn hz hd, q ob pn hz⟩
/-- the data's clauses as the rule's -/
theorem CM.cls {sub : Str → Str → Option Bool} {hs : List ExceptHandler} {l : List ClD} (h : CM X mu0 sub hs l) : ∃ cs : List Cl, ClsOk X hs cs ∧
    All2 (fun (k : Cl) (e : ClD) => k.i = e.2.1 ∧ k.ts = tsOf X mu0 e.2.2 ∧ ∀ y cls b, X.mg y = some cls → sub y e.1 = some b → PySem.W.exmOne X.K cls k.c = some b) cs l := by
  induction h with
  | nil => exact ⟨[], .nil, .nil⟩
  | @bare x c s body f p q hs l hc hsub hb r ih =>
    obtain ⟨cs, h1, h2⟩ := ih
    exact ⟨⟨c, none, tsOf X mu0 f⟩ :: cs, .bare hc rfl (suite_ok hb) h1, .cons ⟨rfl, rfl, hsub⟩ h2⟩
  | @named x n i c s body f p q hs l hc hsub hN hl hb r ih =>
    obtain ⟨cs, h1, h2⟩ := ih
    exact ⟨⟨c, some i, tsOf X mu0 f⟩ :: cs, .named hc rfl hN hl (suite_ok hb) h1, .cons ⟨rfl, rfl, hsub⟩ h2⟩
theorem RelF.any {X' : Cx} {st : L2.St} {ds : DS} {H : Hp} {mu : List Addr} {h : LH} (r : RelF X mu0 st ds H mu h) (c : clean ds = true) (e1 : X'.K = X.K) (e2 : X'.mg = X.mg) (e3 : X'.H_0 = X.H_0) : RelF X' mu0 st ds H mu h :=
  ⟨by rw [e1, e2]; exact r.rs.any c, by rw [e1]; exact r.rh, by rw [e3]; exact r.ext, by rw [e3]; exact r.fresh, r.apart⟩
theorem RelF.drop {X' : Cx} {st : L2.St} {ds : DS} {H : Hp} {mu : List Addr} {h : LH} {i : Option Nat} (r : RelF X mu0 st ds H mu h) (c : clean (putD i ds none) = true) (e1 : X'.K = X.K) (e2 : X'.mg = X.mg) (e3 : X'.H_0 = X.H_0) : RelF X' mu0 (putI i st none) (putD i ds none) H mu h := by
  cases i with
  | none => exact r.any c e1 e2 e3
  | some i =>
    have ne : ∀ {j : Nat} {s : SV}, (ds.set i none)[j]? = some (some s) → i ≠ j ∧ ds[j]? = some (some s) := fun {j s} q => by
      by_cases z : i = j
      · subst z
        by_cases hl : i < ds.length
        · rw [List.getElem?_set_self hl] at q; cases q
        · rw [List.getElem?_eq_none (by rw [List.length_set]; omega)] at q; cases q
      · rw [List.getElem?_set_ne z] at q
        exact ⟨z, q⟩
    refine ⟨⟨?_, fun j s q n => ?_, fun j x q => (clean_at c q).elim⟩, by rw [e1]; exact r.rh, by rw [e3]; exact r.ext, fun j l a q q2 => ?_, fun j k l l' a hn q q1 q2 q3 => ?_⟩
    · show (st.set i none).length = (ds.set i none).length
      rw [List.length_set, List.length_set]; exact r.rs.len
    · obtain ⟨z, q⟩ := ne q
      obtain ⟨v, h1, h2⟩ := r.rs.at_ j s q n
      exact ⟨v, (List.getElem?_set_ne z).trans h1, by rw [e1]; exact h2⟩
    · obtain ⟨z, q⟩ := ne q
      rw [e3]
      exact r.fresh j l a q ((List.getElem?_set_ne z).symm.trans q2)
    · obtain ⟨z, q⟩ := ne q
      obtain ⟨z1, q1⟩ := ne q1
      exact r.apart j k l l' a hn q q1 ((List.getElem?_set_ne z).symm.trans q2) ((List.getElem?_set_ne z1).symm.trans q3)
theorem RelF.catch {X' : Cx} {st : L2.St} {ds : DS} {H : Hp} {mu : List Addr} {h : LH} {i : Option Nat} {x : XV} {a : Addr} {ob : Obj} {cls : Value} {d : Option Addr} (r : RelF X mu0 st ds H mu h) (c : clean ds = true) (e1 : X'.K = X.K) (e2 : X'.mg = X.mg) (e3 : X'.H_0 = X.H_0)
    (hz : Zc cls d ob) (hp : (a, ob) ∈ X'.pn ∧ ∃ us, ob.data = .fields us) (rx : RelX X.K X.mg H cls d x) (nm : ∀ d' fs, d = some d' → H d' = some (.xd fs) → d' ∉ mu) : RelF X' mu0 (putI i st (some (.ref a))) (putD i ds (some (.exc x))) H mu h := by
  cases i with
  | none => exact r.any c e1 e2 e3
  | some i =>
    have ne : ∀ {j : Nat} {s : SV}, (ds.set i (some (.exc x)))[j]? = some (some s) → (i = j ∧ s = .exc x ∧ i < ds.length) ∨ (i ≠ j ∧ ds[j]? = some (some s)) := fun {j s} q => by
      by_cases z : i = j
      · subst z
        by_cases hl : i < ds.length
        · rw [List.getElem?_set_self hl] at q; exact .inl ⟨rfl, (Option.some.inj (Option.some.inj q)).symm, hl⟩
        · rw [List.getElem?_eq_none (by rw [List.length_set]; omega)] at q; cases q
      · rw [List.getElem?_set_ne z] at q
        exact .inr ⟨z, q⟩
    refine ⟨⟨?_, fun j s q n => ?_, fun j y q => ?_⟩, by rw [e1]; exact r.rh, by rw [e3]; exact r.ext, fun j l b q q2 => ?_, fun j k l l' b hn q q1 q2 q3 => ?_⟩
    · show (st.set i _).length = (ds.set i _).length
      rw [List.length_set, List.length_set]; exact r.rs.len
    · rcases ne q with ⟨_, z, _⟩ | ⟨z, q⟩
      · exact (n x z).elim
      · obtain ⟨v, h1, h2⟩ := r.rs.at_ j s q n
        exact ⟨v, (List.getElem?_set_ne z).trans h1, by rw [e1]; exact h2⟩
    · rcases ne q with ⟨z, z2, hl⟩ | ⟨z, q⟩
      · subst z
        cases z2
        have hl2 : i < st.length := by rw [r.rs.len]; exact hl
        refine ⟨a, ob, List.getElem?_set_self hl2, hp, by rw [e2, hz.1]; exact rx.1, ?_⟩
        rcases rx.2 with ⟨q1, q2⟩ | ⟨d', fs, q1, q2, q3⟩
        · exact .inl ⟨hz.2.trans q1, q2⟩
        · exact .inr ⟨d', fs, ⟨hz.2.trans q1.1, q1.2⟩, q2, nm d' fs q1.1 q2, by rw [e1]; exact q3⟩
      · exact (clean_at c q).elim
    · rcases ne q with ⟨_, z2, _⟩ | ⟨z, q⟩
      · cases z2
      · rw [e3]
        exact r.fresh j l b q ((List.getElem?_set_ne z).symm.trans q2)
    · rcases ne q with ⟨_, z2, _⟩ | ⟨z, q⟩
      · cases z2
      · rcases ne q1 with ⟨_, z2, _⟩ | ⟨z1, q1⟩
        · cases z2
        · exact r.apart j k l l' b hn q q1 ((List.getElem?_set_ne z).symm.trans q2) ((List.getElem?_set_ne z1).symm.trans q3)
theorem RelH.noxd {K : PySem.W.Frag} {H : Hp} {mu : List Addr} {h : LH} (r : RelH K H mu h) {d : Addr} {fs : List (Str × V)} (e : H d = some (.xd fs)) : d ∉ mu := fun hm => by
  obtain ⟨n, hn, q⟩ := List.mem_iff_getElem.mp hm
  have hn2 : n < h.length := by rw [← r.len]; exact hn
  have k := r.at_ n d h[n] (by rw [List.getElem?_eq_getElem hn, q]) (List.getElem?_eq_getElem hn2)
  cases z : h[n] with
  | lst xs =>
    rw [z] at k
    obtain ⟨vs, k1, _⟩ := k
    rw [e] at k1
    cases k1
  | ins C gs =>
    rw [z] at k
    obtain ⟨dx, vs, k1, _⟩ := k
    rw [e] at k1
    cases k1
variable {W : WX}
theorem out_ok {i : Option Nat} {a : Addr} {ob : Obj} {pn : List (Addr × Obj)} {H H' : Hp} {o : SO} {E : Ends} (m : Mono H H') (q : AfterS X W mu0 H (outS i o) E) : AfterS (X.suite a ((a, ob) :: pn)) noW mu0 H' o (endI i E) := by
  cases o with
  | nx ds h =>
    obtain ⟨c, q⟩ := q.iff
    exact fun st2 H2 mu2 r m2 => q _ H2 mu2 (r.drop c rfl rfl rfl) (m.trans m2)
  | bk ds h =>
    obtain ⟨c, q⟩ := q.iff
    exact fun st2 H2 mu2 r m2 => q _ H2 mu2 (r.drop c rfl rfl rfl) (m.trans m2)
  | ct ds h =>
    obtain ⟨c, q⟩ := q.iff
    exact fun st2 H2 mu2 r m2 => q _ H2 mu2 (r.drop c rfl rfl rfl) (m.trans m2)
  | rt s h => exact q
  | exc x ds h => exact q.elim
  | bad => exact q.elim
theorem catch_ok {sub : Str → Str → Option Bool} {x : XV} {ds : DS} {h : LH} {H : Hp} {E : Ends} (c : clean ds = true) : ∀ {cs : List Cl} {l : List ClD},
    All2 (fun (k : Cl) (e : ClD) => k.i = e.2.1 ∧ k.ts = tsOf X mu0 e.2.2 ∧ ∀ y cls b, X.mg y = some cls → sub y e.1 = some b → PySem.W.exmOne X.K cls k.c = some b) cs l →
    AfterS X W mu0 H (catchL sub x l ds h) E → ∀ (cls : Value) (d : Option Addr) (st : L2.St) (H' : Hp) (mu : List Addr), RelF X mu0 st ds H' mu h → Mono H H' → RelX X.K X.mg H' cls d x → wCl X.K W E cs cls d st H'
  | _, _, .nil, q, cls, d, st, H', mu, r, m, rx => q cls d st H' mu r m rx
  | _, _, .cons (a := k) (b := e) ⟨k1, k2, k3⟩ t, q, cls, d, st, H', mu, r, m, rx => by
    unfold catchL at q
    cases es : sub x.cls e.1 with
    | none => rw [es] at q; exact q.elim
    | some b =>
      rw [es] at q
      refine ⟨b, k3 x.cls cls b rx.1 es, fun hb a na => ?_, fun hb => ?_⟩
      · subst hb
        rw [k1, k2]
        exact ⟨putD e.2.1 ds (some (.exc x)), mu, h, fun ob pn hz hd => r.catch c rfl rfl rfl hz ⟨List.mem_cons_self, hd⟩ rx (fun d' fs _ z => r.rh.noxd z), fun ob pn hz => out_ok m q⟩
      · subst hb
        exact catch_ok c t q cls d st H' mu r m rx
/-- try over data -/
theorem pm_try {sub : Str → Str → Option Bool} {fb : SF} {cs : List ClD} {body : List Stmt} {h0 : ExceptHandler} {hds : List ExceptHandler} {pos : Pos} (nd : X.N.Nodup) (hs : X.stack = X.env :: X.outer) (hf : X.env.frame = some X.env.locals) (tk : Takes X W)
    (hb : ∀ (W' : WX) (pn : List (Addr × Obj)) (xe : Value → Shared → Prop), Takes (X.tr pn xe) W' → PassesOwn (model X.prog X.w) X.A X.env xe → BM (X.tr pn xe) W' mu0 body fb)
    (hh : CM X mu0 sub (h0 :: hds) cs) : PM X W mu0 (.Try body (h0 :: hds) [] [] pos) (sTry sub fb cs) := by
  obtain ⟨l, hl, ha⟩ := hh.cls
  refine ⟨PS.imp (ps_tryC (tb := fun W' E st H => ∃ ds mu h, (∀ pn xe, RelF (X.tr pn xe) mu0 st ds H mu h) ∧ ∀ pn xe, AfterS (X.tr pn xe) W' mu0 H (fb ds h) E) nd hs hf tk
    (fun W' pn xe t p => PSs.imp (hb W' pn xe t p).pss fun E st H ⟨ds, mu, h, r, q⟩ => ⟨ds, mu, h, r pn xe, q pn xe⟩) hl) fun E st H ⟨ds, mu, h, r, q⟩ => ?_⟩
  unfold sTry at q
  obtain ⟨c, q⟩ := q.iff
  refine ⟨ds, mu, h, fun pn xe => r.any c rfl rfl rfl, fun pn xe => ?_⟩
  cases eb : fb ds h with
  | nx ds2 h2 =>
    rw [eb] at q
    obtain ⟨c2, q⟩ := q.iff
    exact fun st2 H2 mu2 r2 m2 => q st2 H2 mu2 (r2.any c2 rfl rfl rfl) m2
  | bk ds2 h2 =>
    rw [eb] at q
    obtain ⟨c2, q⟩ := q.iff
    exact fun st2 H2 mu2 r2 m2 => q st2 H2 mu2 (r2.any c2 rfl rfl rfl) m2
  | ct ds2 h2 =>
    rw [eb] at q
    obtain ⟨c2, q⟩ := q.iff
    exact fun st2 H2 mu2 r2 m2 => q st2 H2 mu2 (r2.any c2 rfl rfl rfl) m2
  | rt s2 h2 => rw [eb] at q; exact q
  | bad => rw [eb] at q; exact q.elim
  | exc x ds2 h2 =>
    rw [eb] at q
    obtain ⟨c2, q⟩ := q.iff
    exact fun cls d st2 H2 mu2 r2 m2 rx => catch_ok c2 ha q cls d st2 H2 mu2 (r2.any c2 rfl rfl rfl) m2 rx
end
end U
/-! T3: what a suite says of its error. -/
namespace U
open PySem PySem.Spec PyProof.Rows L2
section
variable {X : Cx} {W : WX} {mu0 : List Addr}
/-- isinstance(e, c) for a pinned error without an own dict -/
theorem call_isP : CallR X (.builtin "isinstance") (fun xs H Q => ∃ (e D : Addr) (oe : Obj) (c : V) (cv : Value) (b : Bool), xs = [.ref e, c] ∧ (e, oe) ∈ X.pn ∧ Zc (.ref D) none oe ∧ (∃ us, oe.data = .fields us) ∧ ExcC X.K D ∧ (∀ u, RelV c u → u = cv) ∧ PySem.W.kitOne X.K (.ref D) cv = some b ∧ Q (.bl b) H) := by
  intro pins s st H xs us Q I r h
  obtain ⟨e, D, oe, c, cv, b, rfl, hp, hz, hf, C, hcv, hk, q⟩ := h
  cases r with
  | cons rx rr =>
    cases rr with
    | cons rt rr =>
      cases rr
      cases rx
      have ec := hcv _ rt
      subst ec
      obtain ⟨hget, _⟩ := I.pin (e, oe) (List.mem_append_left _ hp)
      obtain ⟨vs, hv⟩ := hf
      have J : PySem.W.InstAt s.heap e oe D none := by
        obtain ⟨oc, od, oda, osl⟩ := oe
        obtain ⟨h1, h2⟩ := hz
        dsimp only at h1 h2 hv
        subst h1 h2 hv
        exact ⟨hget, rfl, rfl, trivial⟩
      exact PySem.W.kia_one (PySem.W.handS_kitx_exc C.hg C.hk C.hs C.hd C.ha C.hn C.ht C.hm) I.kIn J hk (fun z => nomatch z) fun tk => ⟨.bl b, H, I.kept (t' := tk) fun _ _ z => z, rfl, q⟩
def eIsE (tab : Str → Str → Option Bool) (C : Str) (i : Nat) : DS → LH → Out SV := fun ds h => match ds[i]? with
  | some (some (.exc x)) => iff (x.fs.isEmpty = true) (orBad (tab x.cls C) fun b => .ok (.val (.bool b)) h)
  | _ => .bad
theorem em_isE {tab : Str → Str → Option Bool} {n c : Str} {cv : Value} {v : V} {i : Nat} {p p1 p2 pos : Pos} (hN : X.N[i]? = some n) (hv : Vis X.env.scope n) (hc : PE X (.Name c p2) (tC v)) (hcv : ∀ u, RelV v u → u = cv)
    (ht : ∀ y cls b, X.mg y = some cls → tab y c = some b → ∃ D, cls = .ref D ∧ ExcC X.K D ∧ PySem.W.kitOne X.K (.ref D) cv = some b)
    (hg : Gl X "isinstance") (hm : X.mg "isinstance" = none) (hd : (n == ("__debug__" : Str)) = false := by decide) (hcd : (n == ("__classdict__" : Str)) = false := by decide)
    (hst : starEach [.Name n p1, .Name c p2] X.env = (false, eval (.Name n p1) X.env) :: starEach [.Name c p2] X.env := by rfl)
    (hpl : (backTo pos (starEach [.Name c p2] X.env)).any (·.1) = false := by rfl) : EM X W (.Call (.Name "isinstance" p) [.Name n p1, .Name c p2] [] pos) (eIsE tab c i) := by
  refine ⟨PE.imp (pe_callB call_isP hg hm boot_isinstance (pa_cons (pe_var hN hv hd hcd) (pa_cons hc pa_nil) hst) (by decide) (by decide) hst hpl) fun st H Q ⟨ds, mu, h, rs, rh, q⟩ => ?_⟩
  unfold eIsE at q
  split at q
  · rename_i x hx
    obtain ⟨hemp, q⟩ := q.iff
    obtain ⟨b, eb, q⟩ := q.orBad
    obtain ⟨e, oe, h1, ⟨h2, h3⟩, h4, h5⟩ := rs.ex i x hx
    obtain ⟨D, eD, C, k⟩ := ht x.cls oe.cls b h4 eb
    have hdict : oe.dict = none := by
      rcases h5 with ⟨z, _⟩ | ⟨d, fs, ⟨_, z⟩, _⟩
      · exact z
      · exact (z (List.isEmpty_iff.mp hemp)).elim
    exact ⟨_, h1, e, D, oe, v, cv, b, rfl, h2, ⟨eD, hdict⟩, h3, C, hcv, k, q.here rh (.bl _)⟩
  · exact q.elim
end
end U
/-! T4: the table of the errors' classes. -/
namespace U
open PySem PySem.Spec PyProof.Rows L2
abbrev ExRow := Str × Str × Bool
/-- raised class, named class: is the one a kind of the other -/
def exSub (rows : List ExRow) (y x : Str) : Option Bool := (rows.find? fun r => decide (r.1 = y) && decide (r.2.1 = x)).map (·.2.2)
structure EX (K : PySem.W.Frag) (mg : Str → Option Value) (n : Str) (C : Addr) : Prop where
  g : mg n = some (.ref C)
  e : ExcC K C
  t : PySem.W.typeIn K (.ref C) = some (.type "type")
  o : PySem.W.subIn K (.ref C) (.ref C) = some true
def ExRow.ok (K : PySem.W.Frag) (mg : Str → Option Value) (r : ExRow) : Prop := ∃ D, mg r.1 = some (.ref D) ∧ ExcC K D ∧
  ((∃ C, mg r.2.1 = some (.ref C) ∧ PySem.W.exmOne K (.ref D) (.ref C) = some r.2.2 ∧ PySem.W.kitOne K (.ref D) (.ref C) = some r.2.2) ∨
    (mg r.2.1 = none ∧ ∃ T, bootBuiltins r.2.1 = some (.type T) ∧ PySem.W.kitOne K (.ref D) (.type T) = some r.2.2))
section
variable {K : PySem.W.Frag} {mg : Str → Option Value} {x y : Str} {C D : Addr} {b : Bool}
theorem row_cls (E : EX K mg y D) (F : EX K mg x C) (s : PySem.W.subIn K (.ref D) (.ref C) = some b) : ExRow.ok K mg (y, x, b) := by
  refine ⟨D, E.g, E.e, .inl ⟨C, F.g, PySem.W.exm_ref F.e.hs F.e.hd F.t s, ?_⟩⟩
  unfold PySem.W.kitOne
  by_cases h : (Value.ref D == Value.ref C) = true
  · rw [if_pos h]
    have e : D = C := Value.ref.inj (beq_iff_eq.mp h)
    subst e
    exact F.o.symm.trans s
  · rw [if_neg h]
    unfold PySem.W.kitCls
    obtain ⟨cd, hc, _⟩ := PySem.W.any_some F.e.hd
    have e2 : ((PySem.W.clsIn K C).isSome && PySem.W.typeIn K (.ref C) == some (.type "type")) = true := by rw [hc, F.t] <;> rfl
    show (if ((PySem.W.clsIn K C).isSome && PySem.W.typeIn K (.ref C) == some (.type "type")) = true then PySem.W.subIn K (.ref D) (.ref C) else none) = _
    rw [if_pos e2]
    exact s
theorem row_blt {T : String} (E : EX K mg y D) (hm : mg x = none) (hv : bootBuiltins x = some (.type T)) (hk : PySem.W.kitMeta T = true) (s : PySem.W.subIn K (.ref D) (.type T) = some b) : ExRow.ok K mg (y, x, b) := by
  refine ⟨D, E.g, E.e, .inr ⟨hm, T, hv, ?_⟩⟩
  unfold PySem.W.kitOne
  have h : (Value.ref D == Value.type T) = false := rfl
  rw [h, if_neg Bool.false_ne_true]
  show (if PySem.W.kitMeta T = true then PySem.W.subIn K (.ref D) (.type T) else none) = _
  rw [if_pos hk]
  exact s
theorem row_at {rows : List ExRow} (R : ∀ r ∈ rows, ExRow.ok K mg r) (h : exSub rows y x = some b) : ExRow.ok K mg (y, x, b) := by
  unfold exSub at h
  obtain ⟨r, h1, h2⟩ := Option.map_eq_some_iff.mp h
  have m := List.mem_of_find?_eq_some h1
  have p := List.find?_some h1
  rw [Bool.and_eq_true] at p
  have e1 := of_decide_eq_true p.1
  have e2 := of_decide_eq_true p.2
  obtain ⟨r1, r2, r3⟩ := r
  cases e1
  cases e2
  cases h2
  exact R _ m
theorem sub_of {rows : List ExRow} (R : ∀ r ∈ rows, ExRow.ok K mg r) (hx : mg x = some (.ref C)) : ∀ y cls b, mg y = some cls → exSub rows y x = some b → PySem.W.exmOne K cls (.ref C) = some b := fun y cls b hy h => by
  obtain ⟨D, h1, _, h2⟩ := row_at R h
  have e : cls = .ref D := Option.some.inj (hy.symm.trans h1)
  rcases h2 with ⟨C2, h3, h4, _⟩ | ⟨h3, _⟩
  · have e2 : Value.ref C = .ref C2 := Option.some.inj (hx.symm.trans h3)
    rw [e, e2]
    exact h4
  · rw [h3] at hx; cases hx
theorem isC_of {rows : List ExRow} (R : ∀ r ∈ rows, ExRow.ok K mg r) (hx : mg x = some (.ref C)) : ∀ y cls b, mg y = some cls → exSub rows y x = some b → ∃ D, cls = .ref D ∧ ExcC K D ∧ PySem.W.kitOne K (.ref D) (.ref C) = some b := fun y cls b hy h => by
  obtain ⟨D, h1, h0, h2⟩ := row_at R h
  have e : cls = .ref D := Option.some.inj (hy.symm.trans h1)
  rcases h2 with ⟨C2, h3, _, h4⟩ | ⟨h3, _⟩
  · have e2 : Value.ref C = .ref C2 := Option.some.inj (hx.symm.trans h3)
    rw [e2]
    exact ⟨D, e, h0, h4⟩
  · rw [h3] at hx; cases hx
theorem isT_of {T : String} {rows : List ExRow} (R : ∀ r ∈ rows, ExRow.ok K mg r) (hx : mg x = none) (hv : bootBuiltins x = some (.type T)) : ∀ y cls b, mg y = some cls → exSub rows y x = some b → ∃ D, cls = .ref D ∧ ExcC K D ∧ PySem.W.kitOne K (.ref D) (.type T) = some b := fun y cls b hy h => by
  obtain ⟨D, h1, h0, h2⟩ := row_at R h
  have e : cls = .ref D := Option.some.inj (hy.symm.trans h1)
  rcases h2 with ⟨C2, h3, _⟩ | ⟨_, T2, h3, h4⟩
  · rw [hx] at h3; cases h3
  · have e2 : T2 = T := by rw [hv] at h3; cases h3; rfl
    subst e2
    exact ⟨D, e, h0, h4⟩
end
section
variable {X : Cx} {W : WX} {n c : Str} {i : Nat} {p p1 p2 pos : Pos} {rows : List ExRow} {C : Addr} {T : String}
theorem em_isEC (R : ∀ r ∈ rows, ExRow.ok X.K X.mg r) (hx : X.mg c = some (.ref C)) (hN : X.N[i]? = some n) (hv : Vis X.env.scope n) (hc : Gl X c) (hg : Gl X "isinstance") (hm : X.mg "isinstance" = none)
    (hd2 : (c == ("__debug__" : Str)) = false := by decide) (hd : (n == ("__debug__" : Str)) = false := by decide) (hcd : (n == ("__classdict__" : Str)) = false := by decide)
    (hst : starEach [.Name n p1, .Name c p2] X.env = (false, eval (.Name n p1) X.env) :: starEach [.Name c p2] X.env := by rfl)
    (hpl : (backTo pos (starEach [.Name c p2] X.env)).any (·.1) = false := by rfl) : EM X W (.Call (.Name "isinstance" p) [.Name n p1, .Name c p2] [] pos) (eIsE (exSub rows) c i) :=
  em_isE (v := .ref C) (cv := .ref C) hN hv (pe_glob hc hx rfl hd2) (fun _ r => r) (isC_of R hx) hg hm hd hcd hst hpl
theorem em_isET (R : ∀ r ∈ rows, ExRow.ok X.K X.mg r) (hx : X.mg c = none) (hb : bootBuiltins c = some (.type T)) (hN : X.N[i]? = some n) (hv : Vis X.env.scope n) (hc : Gl X c) (hg : Gl X "isinstance") (hm : X.mg "isinstance" = none)
    (hn : c ≠ "__name__" := by decide) (hd2 : (c == ("__debug__" : Str)) = false := by decide) (hd : (n == ("__debug__" : Str)) = false := by decide) (hcd : (n == ("__classdict__" : Str)) = false := by decide)
    (hst : starEach [.Name n p1, .Name c p2] X.env = (false, eval (.Name n p1) X.env) :: starEach [.Name c p2] X.env := by rfl)
    (hpl : (backTo pos (starEach [.Name c p2] X.env)).any (·.1) = false := by rfl) : EM X W (.Call (.Name "isinstance" p) [.Name n p1, .Name c p2] [] pos) (eIsE (exSub rows) c i) :=
  em_isE (v := .ty T) (cv := .type T) hN hv (pe_bltn (v := .ty T) hc hx hb rfl hn hd2) (fun _ r => r) (isT_of R hx hb) hg hm hd hcd hst hpl
end
end U
namespace Q
open PySem PySem.Spec PyProof.Rows L2 U
def exRows : List ExRow := [("BadVersion", "BadVersion", true), ("BadVersion", "BadRange", false), ("BadVersion", "ShelfError", true), ("BadVersion", "ValueError", true), ("BadRange", "BadVersion", false), ("BadRange", "BadRange", true), ("BadRange", "ShelfError", true), ("BadRange", "ValueError", true)]
def b_number_of : SF := (sSeq (sIf (tOr' (tNot' (tOf (eChain gLe gLe (eC (.int 1)) (eArgs gLen (aCons (eVar 0) aNil)) (eC (.int 3))))) (tNot' (tTru (eArgs gAll (aCons (eFz (fLc (iStr' (eVar 0)) (tgName 1) tYes' (eBin (gIn false) (eVar 1) (eC (.str "0123456789"))) [1])) aNil))))) (sRet (eC .none)) sNil)
    (sSeq (sIf (tAnd' (tOf (eBin gGt (eArgs gLen (aCons (eVar 0) aNil)) (eC (.int 1)))) (tOf (eBin gEq (eBin gIxA (eVar 0) (eC (.int 0))) (eC (.str "0"))))) (sRet (eC .none)) sNil)
    (sRet (eArgs gInt (aCons (eVar 0) aNil)))))
def run_number_of : RF := runOf 2 b_number_of
theorem st_number_of {a0 : SV} {h : LH} : run_number_of [a0] h = fin (b_number_of [some a0, none] h) := run_fin rfl
def b_next_major : SF := (sSeq (sTg (tgTup 3 (tgsCons (tgName 1) (tgsCons (tgName 2) (tgsCons (tgName 3) tgsNil)))) (eVar 0))
    (sSeq (sIf (tOf (eBin gGt (eVar 1) (eC (.int 0)))) (sRet (eArgs gTup (aCons (eBin gAdd (eVar 1) (eC (.int 1))) (aCons (eC (.int 0)) (aCons (eC (.int 0)) aNil))))) sNil)
    (sSeq (sIf (tOf (eBin gGt (eVar 2) (eC (.int 0)))) (sRet (eArgs gTup (aCons (eC (.int 0)) (aCons (eBin gAdd (eVar 2) (eC (.int 1))) (aCons (eC (.int 0)) aNil))))) sNil)
    (sRet (eArgs gTup (aCons (eC (.int 0)) (aCons (eC (.int 0)) (aCons (eBin gAdd (eVar 3) (eC (.int 1))) aNil))))))))
def run_next_major : RF := runOf 4 b_next_major
theorem st_next_major {a0 : SV} {h : LH} : run_next_major [a0] h = fin (b_next_major [some a0, none, none, none] h) := run_fin rfl
def b_is_within : SF := (sSeq (sTg (tgTup 2 (tgsCons (tgName 2) (tgsCons (tgName 3) tgsNil))) (eVar 1))
    (sRet (eAndV (eBin gLe (eVar 2) (eVar 0)) (eOrV (eBin (gIs false) (eVar 3) (eC .none)) (eBin gLt (eVar 0) (eVar 3))))))
def run_is_within : RF := runOf 4 b_is_within
theorem st_is_within {a0 a1 : SV} {h : LH} : run_is_within [a0, a1] h = fin (b_is_within [some a0, some a1, none, none] h) := run_fin rfl
def b_law_cell : SF := (sSeq (sIf (tOf (eBin gLt (eVar 1) (eArgs gLen (aCons (eVar 0) aNil)))) (sRet (eArgs gInt (aCons (eBin gIxS (eVar 0) (eVar 1)) aNil))) sNil)
    (sRet (eC (.int 0))))
def run_law_cell : RF := runOf 2 b_law_cell
theorem st_law_cell {a0 a1 : SV} {h : LH} : run_law_cell [a0, a1] h = fin (b_law_cell [some a0, some a1] h) := run_fin rfl
def l_law_draws_1 : SF := (sIf (tAnd' (tOf (eBin gLt (eVar 5) (eVar 1))) (tTru (eVar 3))) (sSeq (sApp 4 (eBin gMod (eVar 2) (eC (.int 60))))
    (sSet 2 (eBin gDiv (eVar 2) (eC (.int 60))))) (sIf (tOf (eBin gLt (eVar 5) (eVar 1))) (sSeq (sSet 6 (eBin gMod (eBin gAdd (eBin gAdd (eBin gMul (eArgs gInt (aCons (eVar 2) aNil)) (eC (.int 48271))) (eBin gMul (eVar 5) (eC (.int 69621)))) (eC (.int 11))) (eC (.int 2147483647))))
    (sSeq (sSet 6 (eBin gMod (eBin gAdd (eBin gAdd (eBin gMul (eArgs gInt (aCons (eVar 6) aNil)) (eArgs gInt (aCons (eVar 6) aNil))) (eBin gMul (eVar 5) (eC (.int 7919)))) (eC (.int 5))) (eC (.int 998244353))))
    (sApp 4 (eBin gMod (eArgs gInt (aCons (eVar 6) aNil)) (eC (.int 60)))))) sNil))
def b_law_draws : SF := (sSeq (sSet 2 (eArgs gAbs (aCons (eArgs gInt (aCons (eVar 0) aNil)) aNil)))
    (sSeq (sSet 3 (eBin gGe (eVar 2) (eBin gPow (eC (.int 10)) (eC (.int 18)))))
    (sSeq (sOwn 4 (eArgsF aNil))
    (sSeq (sFor (iRange1 (aCons (eC (.int 60)) aNil)) (tgName 5) l_law_draws_1)
    (sFz 4 (sRet (eVar 4)))))))
def run_law_draws : RF := runOf 7 b_law_draws
theorem st_law_draws {a0 a1 : SV} {h : LH} : run_law_draws [a0, a1] h = fin (b_law_draws [some a0, some a1, none, none, none, none, none] h) := run_fin rfl
def b_law_next : SF := (sSeq (sSet 2 (eBin gIxA (eVar 0) (eC (.int 0))))
    (sSeq (sSet 3 (eBin gIxA (eVar 0) (eC (.int 1))))
    (sSeq (sSet 4 (eBin gMod (eArgs gInt (aCons (eBin gIxA (eVar 2) (eBin gMod (eArgs gInt (aCons (eBin gIxA (eVar 3) (eC (.int 0))) aNil)) (eArgs gLen (aCons (eVar 2) aNil)))) aNil)) (eVar 1)))
    (sSeq (sSub (eVar 3) (eC (.int 0)) (eBin gAdd (eBin gIxA (eVar 3) (eC (.int 0))) (eC (.int 1))))
    (sRet (eVar 4))))))
def run_law_next : RF := runOf 5 b_law_next
theorem st_law_next {a0 a1 : SV} {h : LH} : run_law_next [a0, a1] h = fin (b_law_next [some a0, some a1, none, none, none] h) := run_fin rfl
def b_law_is_integer : SF := (sRet (eAndV (eIsi "int" (eVar 0)) (eNotV (eIsi "bool" (eVar 0)))))
def run_law_is_integer : RF := runOf 1 b_law_is_integer
theorem st_law_is_integer {a0 : SV} {h : LH} : run_law_is_integer [a0] h = fin (b_law_is_integer [some a0] h) := run_fin rfl
def b_version_numbers : SF := (sSeq (sIf (tNot' (tTru (eIsi "str" (eVar 0)))) (sRet (eC .none)) sNil)
    (sSeq (sSet 1 (eS1 gSplit (eVar 0) (eC (.str "."))))
    (sSeq (sIf (tOf (eBin gNe (eArgs gLen (aCons (eVar 1) aNil)) (eC (.int 3)))) (sRet (eC .none)) sNil)
    (sSeq (sSet 2 (eArgs gTuple (aCons (eFz (fLc (iSeq (eVar 1)) (tgName 3) tYes' (eArgs (nArgs 1 (gPure run_number_of)) (aCons (eVar 3) aNil)) [3])) aNil)))
    (sSeq (sIf (tOf (eBin (gIn false) (eC .none) (eVar 2))) (sRet (eC .none)) sNil)
    (sRet (eVar 2)))))))
def run_version_numbers : RF := runOf 4 b_version_numbers
theorem st_version_numbers {a0 : SV} {h : LH} : run_version_numbers [a0] h = fin (b_version_numbers [some a0, none, none, none] h) := run_fin rfl
def l_law_stream_1 : SF := (sExt 3 (eArgs (nArgs 2 (gPure run_law_draws)) (aCons (eArgs (nArgs 2 (gPure run_law_cell)) (aCons (eVar 0) (aCons (eBin gAdd (eVar 1) (eVar 4)) aNil))) (aCons (eC (.int 12)) aNil))))
def b_law_stream : SF := (sSeq (sOwn 3 (eArgsF aNil))
    (sSeq (sFor (iRange1 (aCons (eVar 2) aNil)) (tgName 4) l_law_stream_1)
    (sFz 3 (sRet (eArgs gLstH (aCons (eVar 3) (aCons (eArgs gLstH (aCons (eC (.int 0)) aNil)) aNil)))))))
def run_law_stream : RF := runOf 5 b_law_stream
theorem st_law_stream {a0 a1 a2 : SV} {h : LH} : run_law_stream [a0, a1, a2] h = fin (b_law_stream [some a0, some a1, some a2, none, none] h) := run_fin rfl
def l_law_same_1 (self : RF) : SF := (sIf (tNot' (tTru (eArgs (nArgs 2 (gPure self)) (aCons (eBin gIxA (eVar 0) (eVar 2)) (aCons (eBin gIxA (eVar 1) (eVar 2)) aNil))))) (sRet (eC (.bool false))) sNil)
def b_law_same (self : RF) : SF := (sSeq (sIf (tOf (eBin (gIs false) (eVar 1) (eC .none))) (sRet (eBin (gIs false) (eVar 0) (eC .none))) sNil)
    (sSeq (sIf (tTru (eIsi "bool" (eVar 1))) (sRet (eAndV (eIsi "bool" (eVar 0)) (eBin gEq (eVar 0) (eVar 1)))) sNil)
    (sSeq (sIf (tTru (eIsi "int" (eVar 1))) (sRet (eAndV (eArgs (nArgs 1 (gPure run_law_is_integer)) (aCons (eVar 0) aNil)) (eBin gEq (eVar 0) (eVar 1)))) sNil)
    (sSeq (sIf (tTru (eIsi "str" (eVar 1))) (sRet (eAndV (eIsi "str" (eVar 0)) (eBin gEq (eVar 0) (eVar 1)))) sNil)
    (sSeq (sIf (tAnd' (tTru (eIsi "tuple" (eVar 1))) (tNot' (tTru (eIsi "tuple" (eVar 0))))) (sRet (eC (.bool false))) sNil)
    (sSeq (sIf (tAnd' (tTru (eIsi "list" (eVar 1))) (tNot' (tTru (eIsi "list" (eVar 0))))) (sRet (eC (.bool false))) sNil)
    (sSeq (sIf (tOf (eBin gNe (eArgs gLen (aCons (eVar 0) aNil)) (eArgs gLen (aCons (eVar 1) aNil)))) (sRet (eC (.bool false))) sNil)
    (sSeq (sFor (iRange1 (aCons (eArgs gLen (aCons (eVar 1) aNil)) aNil)) (tgName 2) (l_law_same_1 self))
    (sRet (eC (.bool true)))))))))))
def run_law_same : Nat → RF
  | 0 => fun _ _ => .bad
  | n + 1 => runOf 3 (b_law_same (run_law_same n))
theorem st_law_same {n : Nat} {a0 a1 : SV} {h : LH} : run_law_same (n + 1) [a0, a1] h = fin (b_law_same (run_law_same n) [some a0, some a1, none] h) := run_fin rfl
def b_law_version : SF := (sRet (eBin gIxA (eArgs gLst (aCons (eC (.str "1.0.0")) (aCons (eC (.str "1.2.0")) (aCons (eC (.str "2.0.0")) (aCons (eC (.str "0.3.1")) (aCons (eC (.str "0.0.4")) (aCons (eC (.str "1.10.0")) aNil))))))) (eArgs (nArgs 2 (gCall run_law_next)) (aCons (eVar 0) (aCons (eC (.int 6)) aNil)))))
def run_law_version : RF := runOf 1 b_law_version
theorem st_law_version {a0 : SV} {h : LH} : run_law_version [a0] h = fin (b_law_version [some a0] h) := run_fin rfl
def b_span_between : SF := (sSeq (sSet 1 (eS1 gSplit (eSl (eVar 0) (oSome (eC (.int 2))) oNone) (eC (.str " <"))))
    (sSeq (sIf (tOf (eBin gNe (eArgs gLen (aCons (eVar 1) aNil)) (eC (.int 2)))) (sRet (eC .none)) sNil)
    (sSeq (sPar 2 3 (aCons (eArgs (nArgs 1 (gPure run_version_numbers)) (aCons (eBin gIxA (eVar 1) (eC (.int 0))) aNil)) (aCons (eArgs (nArgs 1 (gPure run_version_numbers)) (aCons (eBin gIxA (eVar 1) (eC (.int 1))) aNil)) aNil)))
    (sSeq (sIf (tOr' (tOf (eBin (gIs false) (eVar 2) (eC .none))) (tOr' (tOf (eBin (gIs false) (eVar 3) (eC .none))) (tNot' (tOf (eBin gLt (eVar 2) (eVar 3)))))) (sRet (eC .none)) sNil)
    (sRet (eArgs gTup (aCons (eVar 2) (aCons (eVar 3) aNil))))))))
def run_span_between : RF := runOf 4 b_span_between
theorem st_span_between {a0 : SV} {h : LH} : run_span_between [a0] h = fin (b_span_between [some a0, none, none, none] h) := run_fin rfl
def b_law_alternative : SF := (sSeq (sSet 1 (eArgs (nArgs 2 (gCall run_law_next)) (aCons (eVar 0) (aCons (eC (.int 8)) aNil))))
    (sSeq (sIf (tOf (eBin gLe (eVar 1) (eC (.int 2)))) (sRet (eC (.str "*"))) sNil)
    (sSeq (sIf (tOf (eBin gLe (eVar 1) (eC (.int 5)))) (sRet (eBin gAdd (eC (.str "^")) (eArgs (nArgs 1 (gCall run_law_version)) (aCons (eVar 0) aNil)))) sNil)
    (sSeq (sIf (tOf (eBin gEq (eVar 1) (eC (.int 6)))) (sRet (eBin gAdd (eBin gIxA (eArgs gLst (aCons (eC (.str "")) (aCons (eC (.str "~")) aNil))) (eArgs (nArgs 2 (gCall run_law_next)) (aCons (eVar 0) (aCons (eC (.int 2)) aNil)))) (eArgs (nArgs 1 (gCall run_law_version)) (aCons (eVar 0) aNil)))) sNil)
    (sRet (eBin gIxA (eArgs gLst (aCons (eC (.str ">=1.0.0 <2.0.0")) (aCons (eC (.str ">=0.0.0 <1.0.1")) (aCons (eC (.str ">=1.1.0 <999.0.0")) aNil)))) (eArgs (nArgs 2 (gCall run_law_next)) (aCons (eVar 0) (aCons (eC (.int 3)) aNil)))))))))
def run_law_alternative : RF := runOf 2 b_law_alternative
theorem st_law_alternative {a0 : SV} {h : LH} : run_law_alternative [a0] h = fin (b_law_alternative [some a0, none] h) := run_fin rfl
def b_span_of : SF := (sSeq (sIf (tOf (eBin gEq (eVar 0) (eC (.str "*")))) (sRet (eArgs gTup (aCons (eArgs gTup (aCons (eC (.int 0)) (aCons (eC (.int 0)) (aCons (eC (.int 0)) aNil)))) (aCons (eC .none) aNil)))) sNil)
    (sSeq (sIf (tTru (eS1 gStarts (eVar 0) (eC (.str ">=")))) (sRet (eArgs (nArgs 1 (gPure run_span_between)) (aCons (eVar 0) aNil))) sNil)
    (sSeq (sSet 1 (eArgs (nArgs 1 (gPure run_version_numbers)) (aCons (eIf (tOf (eBin (gIn false) (eSl (eVar 0) oNone (oSome (eC (.int 1)))) (eArgs gTup (aCons (eC (.str "^")) (aCons (eC (.str "~")) aNil))))) (eSl (eVar 0) (oSome (eC (.int 1))) oNone) (eVar 0)) aNil)))
    (sSeq (sIf (tOf (eBin (gIs false) (eVar 1) (eC .none))) (sRet (eC .none)) sNil)
    (sSeq (sIf (tOf (eBin gEq (eBin gIxA (eVar 0) (eC (.int 0))) (eC (.str "^")))) (sRet (eArgs gTup (aCons (eVar 1) (aCons (eArgs (nArgs 1 (gPure run_next_major)) (aCons (eVar 1) aNil)) aNil)))) sNil)
    (sSeq (sIf (tOf (eBin gEq (eBin gIxA (eVar 0) (eC (.int 0))) (eC (.str "~")))) (sRet (eArgs gTup (aCons (eVar 1) (aCons (eArgs gTup (aCons (eBin gIxA (eVar 1) (eC (.int 0))) (aCons (eBin gAdd (eBin gIxA (eVar 1) (eC (.int 1))) (eC (.int 1))) (aCons (eC (.int 0)) aNil)))) aNil)))) sNil)
    (sRet (eArgs gTup (aCons (eVar 1) (aCons (eArgs gTup (aCons (eBin gIxA (eVar 1) (eC (.int 0))) (aCons (eBin gIxA (eVar 1) (eC (.int 1))) (aCons (eBin gAdd (eBin gIxA (eVar 1) (eC (.int 2))) (eC (.int 1))) aNil)))) aNil))))))))))
def run_span_of : RF := runOf 2 b_span_of
theorem st_span_of {a0 : SV} {h : LH} : run_span_of [a0] h = fin (b_span_of [some a0, none] h) := run_fin rfl
def b_spans_of : SF := (sSeq (sIf (tNot' (tTru (eIsi "str" (eVar 0)))) (sRet (eC .none)) sNil)
    (sSeq (sSet 1 (eS1 gSplit (eVar 0) (eC (.str " || "))))
    (sSeq (sOwn 2 (fLc (iSeq (eVar 1)) (tgName 3) tYes' (eArgs (nArgs 1 (gPure run_span_of)) (aCons (eVar 3) aNil)) [3]))
    (sSeq (sFz 2 (sIf (tOr' (tOf (eBin gGt (eArgs gLen (aCons (eVar 1) aNil)) (eC (.int 3)))) (tOf (eBin (gIn false) (eC .none) (eVar 2)))) (sRet (eC .none)) sNil))
    (sRet (eVar 2))))))
def run_spans_of : RF := runOf 4 b_spans_of
theorem st_spans_of {a0 : SV} {h : LH} : run_spans_of [a0] h = fin (b_spans_of [some a0, none, none, none] h) := run_fin rfl
def b_is_range : SF := (sRet (eBin (gIs true) (eArgs (nArgs 1 (gPure run_spans_of)) (aCons (eVar 0) aNil)) (eC .none)))
def run_is_range : RF := runOf 1 b_is_range
theorem st_is_range {a0 : SV} {h : LH} : run_is_range [a0] h = fin (b_is_range [some a0] h) := run_fin rfl
def b_satisfies : SF := (sSeq (sSet 2 (eArgs (nArgs 1 (gPure run_version_numbers)) (aCons (eVar 0) aNil)))
    (sSeq (sIf (tOf (eBin (gIs false) (eVar 2) (eC .none))) (sRaise "BadVersion") sNil)
    (sSeq (sSet 3 (eArgs (nArgs 1 (gPure run_spans_of)) (aCons (eVar 1) aNil)))
    (sSeq (sIf (tOf (eBin (gIs false) (eVar 3) (eC .none))) (sRaise "BadRange") sNil)
    (sRet (eArgs gAny (aCons (eFz (fLc (iSeq (eVar 3)) (tgName 4) tYes' (eArgs (nArgs 2 (gPure run_is_within)) (aCons (eVar 2) (aCons (eVar 4) aNil))) [4])) aNil)))))))
def run_satisfies : RF := runOf 5 b_satisfies
theorem st_satisfies {a0 a1 : SV} {h : LH} : run_satisfies [a0, a1] h = fin (b_satisfies [some a0, some a1, none, none, none] h) := run_fin rfl
def b_law_kind : SF := (sSeq (sTry (exSub exRows) (sExpr (eArgs (nArgs 2 (gPure run_satisfies)) (aCons (eVar 0) (aCons (eVar 1) aNil)))) [("BadVersion", some 2, (sRet (eBin gIxA (eArgs gLst (aCons (eC (.str "other")) (aCons (eC (.str "version")) aNil))) (eArgs gInt (aCons (eAndV (eIsE (exSub exRows) "ShelfError" 2) (eIsE (exSub exRows) "ValueError" 2)) aNil))))), ("BadRange", some 2, (sRet (eBin gIxA (eArgs gLst (aCons (eC (.str "other")) (aCons (eC (.str "range")) aNil))) (eArgs gInt (aCons (eIsE (exSub exRows) "ShelfError" 2) aNil)))))])
    (sRet (eC (.str "done"))))
def run_law_kind : RF := runOf 3 b_law_kind
theorem st_law_kind {a0 a1 : SV} {h : LH} : run_law_kind [a0, a1] h = fin (b_law_kind [some a0, some a1, none] h) := run_fin rfl
def l_law_1 : SF := (sIf (tNot' (tTru (eArgs (nArgs 2 (gPure (run_law_same 8))) (aCons (eArgs (nArgs 1 (gPure run_is_range)) (aCons (eVar 3) aNil)) (aCons (eC (.bool false)) aNil))))) (sRet (eC (.bool false))) sNil)
def b_law : SF := (sSeq (sSet 1 (eArgs (nArgs 3 (gCall run_law_stream)) (aCons (eVar 0) (aCons (eC (.int 0)) (aCons (eC (.int 3)) aNil)))))
    (sSeq (sSet 2 (eArgs gLst (aCons (eC (.str "")) (aCons (eC (.str " ")) (aCons (eC (.str "**")) (aCons (eC (.str "^")) (aCons (eC (.str "~")) (aCons (eC (.str "^*")) (aCons (eC (.str "~*")) (aCons (eC (.str "^^1.0.0")) (aCons (eC (.str "^ 1.0.0")) (aCons (eC (.str "1.0")) (aCons (eC (.str "1.0.0.0")) (aCons (eC (.str "01.0.0")) (aCons (eC (.str "1.00.0")) (aCons (eC (.str "1.0.1000")) (aCons (eC (.str ">=1.0.0")) (aCons (eC (.str "<1.0.0")) aNil))))))))))))))))))
    (sSeq (sSet 2 (eBin gAdd (eVar 2) (eArgs gLst (aCons (eC (.str ">=1.0.0<2.0.0")) (aCons (eC (.str ">=1.0.0  <2.0.0")) (aCons (eC (.str ">= 1.0.0 <2.0.0")) (aCons (eC (.str ">=1.0.0 < 2.0.0")) (aCons (eC (.str ">=1.0.0 <=2.0.0")) (aCons (eC (.str ">1.0.0 <2.0.0")) (aCons (eC (.str ">=2.0.0 <2.0.0")) aNil))))))))))
    (sSeq (sSet 2 (eBin gAdd (eVar 2) (eArgs gLst (aCons (eC (.str ">=2.0.0 <1.9.9")) (aCons (eC (.str ">=1.0.0 <2.0.0 ")) (aCons (eC (.str "* ")) (aCons (eC (.str " *")) (aCons (eC (.str "*|*")) (aCons (eC (.str "1.0.0 ")) (aCons (eC (.str "=1.0.0")) (aCons (eC (.str "1.0.x")) (aCons (eC (.str "latest")) (aCons (eC (.str ">=1.0.0 <2.0.0 <3.0.0")) (aCons (eC (.str "^-1.0.0")) aNil))))))))))))))
    (sSeq (sSet 2 (eBin gAdd (eVar 2) (eArgs gLst (aCons (eC (.str "*\n")) (aCons (eC (.str "^1.0.0\n")) (aCons (eC (.str "1.0.0\n")) (aCons (eC (.str ">=1.0.0 <2.0.0\n")) (aCons (eC (.str "* || *\n")) (aCons (eC (.str "\n*")) (aCons (eC (.str "~1.0.0\t")) (aCons (eC (.str "^1.0.1_0")) aNil)))))))))))
    (sSeq (sFor (iSeq (eVar 2)) (tgName 3) l_law_1)
    (sSeq (sSet 4 (eBin gIxA (eVar 2) (eBin gMod (eArgs (nArgs 2 (gCall run_law_next)) (aCons (eVar 1) (aCons (eC (.int 60)) aNil))) (eArgs gLen (aCons (eVar 2) aNil)))))
    (sSeq (sSet 5 (eArgs (nArgs 1 (gCall run_law_alternative)) (aCons (eVar 1) aNil)))
    (sSeq (sSet 6 (eArgs gLst (aCons (eVar 4) (aCons (eBin gAdd (eBin gAdd (eVar 5) (eC (.str " || "))) (eVar 4)) (aCons (eBin gAdd (eBin gAdd (eVar 4) (eC (.str " || "))) (eVar 5)) (aCons (eBin gAdd (eBin gAdd (eVar 5) (eC (.str "||"))) (eVar 5)) (aCons (eBin gAdd (eBin gAdd (eVar 5) (eC (.str " ||"))) (eVar 5)) (aCons (eBin gAdd (eBin gAdd (eVar 5) (eC (.str " | "))) (eVar 5)) aNil))))))))
    (sSeq (sSet 6 (eBin gAdd (eVar 6) (eArgs gLst (aCons (eS1 gJoin (eC (.str " || ")) (eBin gMul (eArgs gLst (aCons (eVar 5) aNil)) (eC (.int 4)))) (aCons (eBin gAdd (eVar 5) (eC (.str " || "))) (aCons (eBin gAdd (eC (.str " || ")) (eVar 5)) aNil))))))
    (sSeq (sSet 7 (eBin gIxA (eVar 6) (eArgs (nArgs 2 (gCall run_law_next)) (aCons (eVar 1) (aCons (eC (.int 9)) aNil)))))
    (sSeq (sIf (tOr' (tNot' (tTru (eArgs (nArgs 2 (gPure (run_law_same 8))) (aCons (eArgs (nArgs 1 (gPure run_is_range)) (aCons (eVar 7) aNil)) (aCons (eC (.bool false)) aNil))))) (tOf (eBin gNe (eArgs (nArgs 2 (gPure run_law_kind)) (aCons (eC (.str "1.0.0")) (aCons (eVar 7) aNil))) (eC (.str "range"))))) (sRet (eC (.bool false))) sNil)
    (sSeq (sSet 8 (eBin gIxA (eArgs gLst (aCons (eC .none) (aCons (eC (.int 5)) (aCons (eArgs gTup (aCons (eC (.str "*")) aNil)) (aCons (eArgs gLst (aCons (eC (.str "*")) aNil)) (aCons (eC (.str "1.0")) aNil)))))) (eArgs (nArgs 2 (gCall run_law_next)) (aCons (eVar 1) (aCons (eC (.int 5)) aNil)))))
    (sSeq (sIf (tOr' (tNot' (tTru (eArgs (nArgs 2 (gPure (run_law_same 8))) (aCons (eArgs (nArgs 1 (gPure run_is_range)) (aCons (eVar 8) aNil)) (aCons (eC (.bool false)) aNil))))) (tOf (eBin gNe (eArgs (nArgs 2 (gPure run_law_kind)) (aCons (eC (.str "1.0")) (aCons (eVar 7) aNil))) (eC (.str "version"))))) (sRet (eC (.bool false))) sNil)
    (sRet (eAndV (eBin gEq (eArgs (nArgs 2 (gPure run_law_kind)) (aCons (eC .none) (aCons (eVar 5) aNil))) (eC (.str "version"))) (eBin gEq (eArgs (nArgs 2 (gPure run_law_kind)) (aCons (eC (.str "1.0.0")) (aCons (eVar 5) aNil))) (eC (.str "done")))))))))))))))))))
def run_law : RF := runOf 9 b_law
theorem st_law {a0 : SV} {h : LH} : run_law [a0] h = fin (b_law [some a0, none, none, none, none, none, none, none, none] h) := run_fin rfl
end Q
namespace Q
open PySem PySem.Spec PyProof.Rows L2 U
theorem cell_ok (ns : List Int) (k : Nat) (h : LH) : ∃ z, run_law_cell [.scr ns, .val (.int k)] h = .ok (.val (.int z)) h := by
  by_cases e : k < ns.length
  · refine ⟨ns[k], ?_⟩
    simp -implicitDefEqProofs [st_law_cell, b_law_cell, e, gIxS, U.atI_nat]
  · refine ⟨0, ?_⟩
    simp -implicitDefEqProofs [st_law_cell, b_law_cell, e]
theorem cell_pure (ns : List Int) (k : Nat) (h : LH) : ∃ z, gPure run_law_cell [.scr ns, .val (.int k)] h = .ok (.val (.int z)) h := by
  obtain ⟨z, e⟩ := cell_ok ns k []
  exact ⟨z, by simp -implicitDefEqProofs [gPure, e]⟩
def drawsI (z : Int) (g : Bool) (h : LH) (i : Nat) (ds : DS) (h' : LH) : Prop := h' = h ∧ ∃ (n : Int) (l : List Int) (t u : Option SV), ds = [some (.val (.int z)), some (.val (.int 12)), some (.val (.int n)), some (.val (.bool g)), some (.own (l.map .int)), t, u] ∧
      l.length = min i 12 ∧ ∀ x ∈ l, 0 ≤ x ∧ x < 60
theorem draws_more {l : List Int} (hb : ∀ x ∈ l, 0 ≤ x ∧ x < 60) (n : Int) : ∀ x ∈ l ++ [n % 60], 0 ≤ x ∧ x < 60 := by
  intro x hx
  rcases List.mem_append.mp hx with hx | hx
  · exact hb x hx
  · rw [List.mem_singleton] at hx; subst hx; omega
theorem draws_t {z n : Int} {l : List Int} {t u : Option SV} {h : LH} {i : Nat} (hk : (i : Int) < 12) (hs : l.length < sizeLine) :
    l_law_draws_1 [some (.val (.int z)), some (.val (.int 12)), some (.val (.int n)), some (.val (.bool true)), some (.own (l.map .int)), some (.val (.int i)), u] h =
    .nx [some (.val (.int z)), some (.val (.int 12)), some (.val (.int (n / 60))), some (.val (.bool true)), some (.own ((l ++ [n % 60]).map .int)), some (.val (.int i)), u] h := by
  simp -implicitDefEqProofs [l_law_draws_1, hk, hs, gMod_int, gDiv_int]
theorem draws_e {z n : Int} {l : List Int} {g : Bool} {t u : Option SV} {h : LH} {i : Nat} (hk : ¬ (i : Int) < 12) :
    l_law_draws_1 [some (.val (.int z)), some (.val (.int 12)), some (.val (.int n)), some (.val (.bool g)), some (.own (l.map .int)), some (.val (.int i)), u] h =
    .nx [some (.val (.int z)), some (.val (.int 12)), some (.val (.int n)), some (.val (.bool g)), some (.own (l.map .int)), some (.val (.int i)), u] h := by
  simp -implicitDefEqProofs [l_law_draws_1, hk]
theorem draws_f {z n m1 m2 : Int} {l : List Int} {t u : Option SV} {h : LH} {i : Nat} (hk : (i : Int) < 12) (hs : l.length < sizeLine) (hm1 : (n * 48271 + i * 69621 + 11) % 2147483647 = m1)
    (hm2 : (m1 * m1 + i * 7919 + 5) % 998244353 = m2) (b1 : -(2 ^ 64) < m1) (b2 : m1 < 2 ^ 64) :
    l_law_draws_1 [some (.val (.int z)), some (.val (.int 12)), some (.val (.int n)), some (.val (.bool false)), some (.own (l.map .int)), some (.val (.int i)), u] h =
    .nx [some (.val (.int z)), some (.val (.int 12)), some (.val (.int n)), some (.val (.bool false)), some (.own ((l ++ [m2 % 60]).map .int)), some (.val (.int i)), some (.val (.int m2))] h := by
  simp -implicitDefEqProofs [l_law_draws_1, hk, hs, gMod_int, gMul_intR, hm1, hm2, gMul_intR b1 b2]
theorem draws_ok (z : Int) (h : LH) : ∃ l : List Int, l.length = 12 ∧ (∀ x ∈ l, 0 ≤ x ∧ x < 60) ∧ run_law_draws [.val (.int z), .val (.int 12)] h = .ok (.val (.list (l.map .int))) h := by
  have key := fun (g : Bool) (n0 : Int) => for_inv (ftg := tgName 5) (fb := l_law_draws_1) (drawsI z g h)
    (items := rangeD 0 60) (ds := [some (.val (.int z)), some (.val (.int 12)), some (.val (.int n0)), some (.val (.bool g)), some (.own []), none, none]) (h := h)
    ⟨rfl, n0, [], none, none, rfl, rfl, by simp⟩ (by
      rintro i x ds h' hx ⟨rfl, n, l, t, u, rfl, hl, hb⟩
      obtain ⟨hi, rfl⟩ := range_get hx
      refine ⟨_, by rw [u_tgName, if_pos (by simp)], ?_⟩
      by_cases hk : i < 12
      · have hk' : (i : Int) < 12 := by omega
        have hs : l.length < sizeLine := by rw [hl]; have := Nat.min_le_right i 12; simp [sizeLine]; omega
        cases g with
        | true => exact ⟨_, _, Or.inl (draws_t (t := t) hk' hs), rfl, n / 60, l ++ [n % 60], some (.val (.int i)), u, rfl, by simp [hl]; omega, draws_more hb _⟩
        | false =>
          exact ⟨_, _, Or.inl (draws_f (t := t) hk' hs rfl rfl (by omega) (by omega)), rfl, n, l ++ [_], some (.val (.int i)), some (.val (.int _)), rfl, by simp [hl]; omega, draws_more hb _⟩
      · have hk' : ¬ (i : Int) < 12 := by omega
        exact ⟨_, _, Or.inl (draws_e (t := t) hk'), rfl, n, l, some (.val (.int i)), u, rfl, by rw [hl]; omega, hb⟩)
  generalize hz : (if z < 0 then -z else z) = az
  obtain ⟨ds', h', e, rfl, n, l, t, u, rfl, hl, hb⟩ := key (decide (1000000000000000000 ≤ az)) az
  refine ⟨l, by rw [hl]; simp, hb, ?_⟩
  rw [st_law_draws]
  unfold b_law_draws
  simp -implicitDefEqProofs [gAbs, hz, gPow, cPow, gI, okR]
  rw [e]
  simp
theorem draws_pure (z : Int) (h : LH) : ∃ l : List Int, l.length = 12 ∧ (∀ x ∈ l, 0 ≤ x ∧ x < 60) ∧ gPure run_law_draws [.val (.int z), .val (.int 12)] h = .ok (.val (.list (l.map .int))) h := by
  obtain ⟨l, a, b, e⟩ := draws_ok z []
  exact ⟨l, a, b, by simp -implicitDefEqProofs [gPure, e]⟩
/-- the stream's heap: its place, its digits -/
def Strm (h : LH) : Prop := ∃ (p : Nat) (l : List Int) (r : LH), h = .lst [.val (.int p)] :: .lst [.val (.list (l.map .int)), .ref 0] :: r ∧ 0 < l.length ∧ ∀ x ∈ l, 0 ≤ x ∧ x < 60
def rest (h : LH) : LH := h.drop 2
def streamI (ns : List Int) (c : Nat) (i : Nat) (ds : DS) (h : LH) : Prop := h = [] ∧ ∃ (l : List Int) (t : Option SV), ds = [some (.scr ns), some (.val (.int 0)), some (.val (.int c)), some (.own (l.map .int)), t] ∧ l.length = 12 * i ∧ ∀ x ∈ l, 0 ≤ x ∧ x < 60
theorem stream_step {ns : List Int} {c : Nat} (hc2 : c ≤ 100) {i : Nat} (hi : i < c) {ds : DS} {h : LH} (z : streamI ns c i ds h) : ∃ ds1, tgName 4 (.int i) ds = some ds1 ∧ ∃ ds2 h2, (l_law_stream_1 ds1 h = .nx ds2 h2 ∨ l_law_stream_1 ds1 h = .ct ds2 h2) ∧ streamI ns c (i + 1) ds2 h2 := by
  obtain ⟨rfl, l, t, rfl, hl, hb⟩ := z
  refine ⟨_, by rw [u_tgName, if_pos (by simp)], ?_⟩
  obtain ⟨z, ez⟩ := cell_pure ns i []
  obtain ⟨l2, hl2, hb2, e2⟩ := draws_pure z []
  have hs : l.length + l2.length ≤ sizeLine := by rw [hl, hl2]; simp [sizeLine]; omega
  have e : l_law_stream_1 [some (.scr ns), some (.val (.int 0)), some (.val (.int c)), some (.own (l.map .int)), some (.val (.int i))] [] =
      .nx [some (.scr ns), some (.val (.int 0)), some (.val (.int c)), some (.own ((l ++ l2).map .int)), some (.val (.int i))] [] := by
    simp -implicitDefEqProofs [l_law_stream_1, ez, e2, hs]
  refine ⟨_, _, Or.inl e, rfl, l ++ l2, some (.val (.int i)), rfl, ?_, ?_⟩
  · rw [List.length_append, hl, hl2]; omega
  · intro x hx
    rcases List.mem_append.mp hx with hx | hx
    · exact hb x hx
    · exact hb2 x hx
theorem stream_run {ns : List Int} {c : Nat} (hc2 : c ≤ 100) {l : List Int} {t : Option SV}
    (e : forL (tgName 4) l_law_stream_1 (rangeD 0 c) [some (.scr ns), some (.val (.int 0)), some (.val (.int c)), some (.own []), none] [] = .nx [some (.scr ns), some (.val (.int 0)), some (.val (.int c)), some (.own (l.map .int)), t] []) :
    run_law_stream [.scr ns, .val (.int 0), .val (.int c)] [] = .ok (.ref 1) [.lst [.val (.int 0)], .lst [.val (.list (l.map .int)), .ref 0]] := by
  have ok : okR (c : Int) := by unfold okR; omega
  rw [st_law_stream]
  unfold b_law_stream
  simp -implicitDefEqProofs [ok]
  rw [e]
  simp -implicitDefEqProofs [gLstH, plainsB, sizeLine]
theorem stream_ok (ns : List Int) (c : Nat) (hc : 0 < c) (hc2 : c ≤ 100) : ∃ h', gCall run_law_stream [.scr ns, .val (.int 0), .val (.int c)] [] = .ok (.ref 1) h' ∧ Strm h' ∧ rest h' = [] := by
  have key := for_inv (ftg := tgName 4) (fb := l_law_stream_1) (streamI ns c) (items := rangeD 0 c)
    (ds := [some (.scr ns), some (.val (.int 0)), some (.val (.int c)), some (.own []), none]) (h := []) ⟨rfl, [], none, rfl, rfl, by simp⟩ (by
      intro i x ds h' hx z
      obtain ⟨hi, rfl⟩ := range_get hx
      exact stream_step hc2 hi z)
  obtain ⟨ds', h', e, rfl, l, t, rfl, hl, hb⟩ := key
  rw [range_len] at hl
  refine ⟨_, ?_, ⟨0, l, [], rfl, by rw [hl]; omega, hb⟩, rfl⟩
  simp -implicitDefEqProofs [gCall, stream_run hc2 e]
theorem next_ok {h : LH} (hs : Strm h) (m : Nat) (hm : 0 < m) : ∃ (v : Nat) (h' : LH), gCall run_law_next [.ref 1, .val (.int m)] h = .ok (.val (.int v)) h' ∧ v < m ∧ Strm h' ∧ rest h' = rest h := by
  obtain ⟨p, l, r, rfl, hl, hb⟩ := hs
  have hlt : p % l.length < l.length := Nat.mod_lt _ hl
  obtain ⟨v, hv⟩ : ∃ v : Nat, (v : Int) = l[p % l.length] % m := ⟨(l[p % l.length] % m).toNat, by
    rw [Int.toNat_of_nonneg (Int.emod_nonneg _ (by omega))]⟩
  refine ⟨v, .lst [.val (.int (p + 1 : Nat))] :: .lst [.val (.list (l.map .int)), .ref 0] :: r, ?_, ?_, ⟨p + 1, l, r, rfl, hl, hb⟩, rfl⟩
  · have : run_law_next [.ref 1, .val (.int m)] (.lst [.val (.int p)] :: .lst [.val (.list (l.map .int)), .ref 0] :: r) =
      .ok (.val (.int v)) (.lst [.val (.int (p + 1 : Nat))] :: .lst [.val (.list (l.map .int)), .ref 0] :: r) := by
      have hp : (0 : Int) < l.length := by omega
      have hm' : (0 : Int) < m := by omega
      have ix : atI (l.map PyData.int) ((p : Int) % (l.length : Int)) = some (.int l[p % l.length]) := by
        rw [← Int.natCast_emod, U.atI_nat _ _ (by rw [List.length_map]; exact hlt), List.getElem_map]
      rw [st_law_next]
      unfold b_law_next
      simp -implicitDefEqProofs [gIxA, gIx, gMod_int hp, gMod_int hm', atI, ixN]
      unfold atI ixN at ix
      simp at ix
      simp [ix, hv, gMod_int hm']
    simp -implicitDefEqProofs [gCall, this]
  · have := Int.emod_lt_of_pos l[p % l.length] (by omega : (0 : Int) < m)
    omega
theorem next_i {h : LH} (hs : Strm h) {m : Int} (hm : 0 < m) : ∃ (v : Nat) (h' : LH), gCall run_law_next [.ref 1, .val (.int m)] h = .ok (.val (.int v)) h' ∧ (v : Int) < m ∧ Strm h' ∧ rest h' = rest h := by
  obtain ⟨v, h', e, hv, z⟩ := next_ok hs m.toNat (by omega)
  rw [Int.toNat_of_nonneg (by omega)] at e
  exact ⟨v, h', e, by omega, z⟩
theorem stream_i (ns : List Int) {c : Int} (hc : 0 < c) (hc2 : c ≤ 100) : ∃ h', gCall run_law_stream [.scr ns, .val (.int 0), .val (.int c)] [] = .ok (.ref 1) h' ∧ Strm h' ∧ rest h' = [] := by
  have := stream_ok ns c.toNat (by omega) (by omega)
  rwa [Int.toNat_of_nonneg (by omega)] at this
/-- data that the law compares, n deep at the most -/
def okS : Nat → D → Prop
  | _, .none => True
  | _, .bool _ => True
  | _, .int _ => True
  | _, .str _ => True
  | 0, _ => False
  | n + 1, .list ds => (ds.length : Int) < 2 ^ 62 ∧ ∀ d ∈ ds, okS n d
  | n + 1, .tuple ds => (ds.length : Int) < 2 ^ 62 ∧ ∀ d ∈ ds, okS n d
  | _, .dict _ => False
theorem same_loop {self : RF} {c : List D → D} (hc : ∀ (l : List D) (i : Int) (h : LH), gIx (.val (c l)) (.val (.int i)) h = orBad (atI l i) fun d => .ok (.val d) h) {ds : List D}
    (H : ∀ d ∈ ds, ∀ h, self [.val d, .val d] h = .ok (.val (.bool true)) h) (h : LH) : ∃ ds' h', forL (tgName 2) (l_law_same_1 self) (rangeD 0 ds.length) [some (.val (c ds)), some (.val (c ds)), none] h = .nx ds' h' ∧ h' = h := by
  obtain ⟨ds', h', e, z⟩ := for_inv (ftg := tgName 2) (fb := l_law_same_1 self) (fun _ s h' => h' = h ∧ ∃ t, s = [some (.val (c ds)), some (.val (c ds)), t]) (items := rangeD 0 ds.length) (ds := [some (.val (c ds)), some (.val (c ds)), none]) (h := h) ⟨rfl, none, rfl⟩ (by
    rintro i x s h' hx ⟨rfl, t, rfl⟩
    obtain ⟨hi, rfl⟩ := range_get hx
    refine ⟨_, by rw [u_tgName, if_pos (by simp)], ?_⟩
    have e : l_law_same_1 self [some (.val (c ds)), some (.val (c ds)), some (.val (.int i))] h' = .nx [some (.val (c ds)), some (.val (c ds)), some (.val (.int i))] h' := by
      simp -implicitDefEqProofs [l_law_same_1, gIxA, hc, U.atI_nat ds i hi, gPure, H ds[i] (List.getElem_mem hi)]
    exact ⟨_, _, Or.inl e, rfl, _, rfl⟩)
  exact ⟨ds', h', e, z.1⟩
theorem same_refl : ∀ (n : Nat) (d : D), okS n d → ∀ h, run_law_same (n + 1) [.val d, .val d] h = .ok (.val (.bool true)) h
  | n, .none, _, h => by rw [st_law_same]; simp -implicitDefEqProofs [b_law_same]
  | n, .bool b, _, h => by rw [st_law_same]; simp -implicitDefEqProofs [b_law_same]
  | n, .int b, _, h => by rw [st_law_same]; simp -implicitDefEqProofs [b_law_same, gPure, st_law_is_integer, b_law_is_integer]
  | n, .str b, _, h => by rw [st_law_same]; simp -implicitDefEqProofs [b_law_same]
  | n + 1, .list ds, ⟨hl, q⟩, h => by
    obtain ⟨ds', h', e, rfl⟩ := same_loop (c := .list) (fun l i h => rfl) (fun d hd h => same_refl n d (q d hd) h) h
    have ok : okR (ds.length : Int) := by unfold okR; omega
    rw [st_law_same]
    simp -implicitDefEqProofs [b_law_same, ok]
    rw [e]
    simp -implicitDefEqProofs
  | n + 1, .tuple ds, ⟨hl, q⟩, h => by
    obtain ⟨ds', h', e, rfl⟩ := same_loop (c := .tuple) (fun l i h => rfl) (fun d hd h => same_refl n d (q d hd) h) h
    have ok : okR (ds.length : Int) := by unfold okR; omega
    rw [st_law_same]
    simp -implicitDefEqProofs [b_law_same, ok]
    rw [e]
    simp -implicitDefEqProofs
  | 0, .dict _, q, _ => q.elim
  | n + 1, .dict _, q, _ => q.elim
theorem same_eq {d e : D} (q : d = e) (k : okS 7 e) (h : LH) : gPure (run_law_same 8) [.val d, .val e] h = .ok (.val (.bool true)) h := by
  subst q
  simp -implicitDefEqProofs [gPure, same_refl 7 d k []]
end Q
namespace Q
open PySem PySem.Spec PyProof.Rows L2 U SX
def isDig (c : Nat) : Bool := decide (48 ≤ c) && decide (c ≤ 57)
theorem inStr_sign (c : Nat) (z : Str) : inStr ⟨#[c]⟩ z = decide (c ∈ z.cps.toList) := rfl
theorem dig_in (c : Nat) : decide (c ∈ (Str.ofString "0123456789").cps.toList) = isDig c := by
  have : (Str.ofString "0123456789").cps.toList = [48, 49, 50, 51, 52, 53, 54, 55, 56, 57] := by decide
  rw [this]
  unfold isDig
  simp only [List.mem_cons, List.not_mem_nil, or_false]
  by_cases h : 48 ≤ c ∧ c ≤ 57
  · rw [decide_eq_true h.1, decide_eq_true h.2, decide_eq_true (by omega)]; rfl
  · rw [← Bool.decide_and, decide_eq_false h, decide_eq_false (by omega)]
def numOk (cs : List Nat) : Bool := decide (1 ≤ cs.length) && decide (cs.length ≤ 3) && cs.all isDig && !(decide (1 < cs.length) && cs.head? == some 48)
def numD (cs : List Nat) : D := if numOk cs then .int (NumText.digitsVal cs : Nat) else .none
theorem num_all (cs : List Nat) (hl : cs.length ≤ 100000) (a : Option SV) (h : LH) : eArgs gAll (aCons (eFz (fLc (iStr' (eVar 0)) (tgName 1) tYes' (eBin (gIn false) (eVar 1) (eC (.str "0123456789"))) [1])) aNil) [some (.val (.str (S cs))), none] h = .ok (.val (.bool (cs.all isDig))) h := by
  have key := compL_all (tg := tgName 1) (fe := eBin (gIn false) (eVar 1) (eC (.str "0123456789"))) (ds := dwipe [some (.val (.str (S cs))), none] [1]) (h := h) (fun x => match x with | .str z => .bool (inStr z "0123456789") | _ => .none) (U.signs (S cs)) (by
    intro x hx
    unfold U.signs at hx
    obtain ⟨c, hc, rfl⟩ := List.mem_map.mp hx
    refine ⟨_, by rw [u_tgName, if_pos (by simp [dwipe, noExc])], ?_⟩
    simp -implicitDefEqProofs [dwipe, noExc, gIn])
  have e : (U.signs (S cs)).map (fun x => match x with | .str z => .bool (inStr z "0123456789") | _ => .none) = (cs.map isDig).map PyData.bool := by
    unfold U.signs
    rw [List.map_map, List.map_map]
    apply List.map_congr_left
    intro c _
    show PyData.bool (inStr ⟨#[c]⟩ _) = _
    rw [inStr_sign, dig_in]
    rfl
  rw [e] at key
  have hz : (U.signs (S cs)).length ≤ sizeLine := by unfold U.signs; simp [sizeLine]; omega
  simp -implicitDefEqProofs [hz]
  rw [key]
  have := gAll_map (cs.map isDig) h
  simp -implicitDefEqProofs at this
  simp -implicitDefEqProofs [this]
theorem strlen_S (cs : List Nat) : (S cs).length = cs.length := S_len cs
theorem isDig_spec {cs : List Nat} (h : cs.all isDig = true) : cs.all (fun c => decide (48 ≤ c) && decide (c ≤ 57)) = true := h
def numB (cs : List Nat) : Bool := decide ((1 : Int) ≤ cs.length) && decide ((cs.length : Int) ≤ 3)
theorem num_t1 {cs : List Nat} (hl : cs.length ≤ 100000) (h : LH) : (tOr' (tNot' (tOf (eChain gLe gLe (eC (.int 1)) (eArgs gLen (aCons (eVar 0) aNil)) (eC (.int 3))))) (tNot' (tTru (eArgs gAll (aCons (eFz (fLc (iStr' (eVar 0)) (tgName 1) tYes' (eBin (gIn false) (eVar 1) (eC (.str "0123456789"))) [1])) aNil))))) [some (.val (.str (S cs))), none] h = .ok (!(numB cs) || !cs.all isDig) h := by
  have hz : (S cs).length ≤ sizeLine := by rw [S_len]; simp [sizeLine]; omega
  refine tOr_ok (tNot_ok (tOf_ok ?_)) (tNot_ok (tTru_b (num_all cs hl none h)))
  unfold numB
  by_cases h1 : (1 : Int) ≤ cs.length
  · simp -implicitDefEqProofs [gLen_str hz, S_len, h1]
  · simp -implicitDefEqProofs [gLen_str hz, S_len, h1]
theorem number_of_ok (cs : List Nat) (hl : cs.length ≤ 100000) (h : LH) : run_number_of [.val (.str (S cs))] h = .ok (.val (numD cs)) h := by
  have hz : (S cs).length ≤ sizeLine := by rw [S_len]; simp [sizeLine]; omega
  have hlen := gLen_str hz
  have ht := num_t1 hl h
  rw [st_number_of]
  unfold b_number_of
  by_cases hb : numB cs = true ∧ cs.all isDig = true
  · rw [hb.1, hb.2] at ht
    have h1 : 1 ≤ cs.length ∧ cs.length ≤ 3 := by
      have := hb.1
      unfold numB at this
      simp at this
      omega
    rw [guard_f ht rfl]
    obtain ⟨c, r, rfl⟩ : ∃ c r, cs = c :: r := by
      cases cs with
      | nil => exact absurd h1.1 (by simp)
      | cons c r => exact ⟨c, r, rfl⟩
    have gx : gIxA (.val (.str (S (c :: r)))) (.val (.int 0)) h = .ok (.val (.str ⟨#[c]⟩)) h := by
      have : atI (c :: r) 0 = some c := U.atI_nat (c :: r) 0 (by simp)
      simp -implicitDefEqProofs [gIxA, gIx, hz, this]
    have ez : (({ cps := #[c] } : Str) = Str.ofString "0") ↔ c = 48 := by
      constructor
      · intro e
        have := congrArg (fun x : Str => x.cps.toList) e
        have e2 : (Str.ofString "0").cps.toList = [48] := by decide
        rw [e2] at this
        exact (List.cons.inj this).1
      · intro e; subst e; rfl
    have t2 : (tAnd' (tOf (eBin gGt (eArgs gLen (aCons (eVar 0) aNil)) (eC (.int 1)))) (tOf (eBin gEq (eBin gIxA (eVar 0) (eC (.int 0))) (eC (.str "0"))))) [some (.val (.str (S (c :: r)))), none] h =
      .ok (decide ((1 : Int) < (c :: r).length) && decide (c = 48)) h := by
      refine tAnd_ok (tOf_ok ?_) (tOf_ok ?_)
      · simp -implicitDefEqProofs [hlen, S_len]
      · simp -implicitDefEqProofs [gx, ez]
    have hint : intText? (S (c :: r)) = some ((NumText.digitsVal (c :: r) : Nat) : Int) := int_S (isDig_spec hb.2) (by simp) (by omega)
    have gi : gInt [.val (.str (S (c :: r)))] h = .ok (.val (.int (NumText.digitsVal (c :: r) : Nat))) h := by
      simp -implicitDefEqProofs [gInt, hint, S_len, show r.length + 1 ≤ 640 by have := h1.2; simp at this; omega]
    have gi2 : eArgs gInt (aCons (eVar 0) aNil) [some (.val (.str (S (c :: r)))), none] h = .ok (.val (.int (NumText.digitsVal (c :: r) : Nat))) h := by
      simp -implicitDefEqProofs [gi]
    unfold numD numOk
    rw [hb.2, decide_eq_true h1.1, decide_eq_true h1.2]
    cases q : (decide ((1 : Int) < (c :: r).length) && decide (c = 48)) with
    | true =>
      rw [q] at t2
      rw [guard_t t2 (ret_ok rfl rfl)]
      have : (decide (1 < (c :: r).length) && (c :: r).head? == some 48) = true := by
        simp at q ⊢
        exact ⟨by omega, q.2⟩
      rw [this]
      rfl
    | false =>
      rw [q] at t2
      rw [guard_f t2 (ret_ok gi2 rfl)]
      have : (decide (1 < (c :: r).length) && (c :: r).head? == some 48) = false := by
        simp at q ⊢
        intro z
        exact q (by omega)
      rw [this]
      rfl
  · have e : (!(numB cs) || !cs.all isDig) = true := by
      revert hb
      cases numB cs <;> cases cs.all isDig <;> simp
    rw [e] at ht
    rw [guard_t ht (ret_ok rfl rfl)]
    have : numOk cs = false := by
      unfold numOk
      cases h1 : (decide (1 ≤ cs.length) && decide (cs.length ≤ 3)) with
      | false => rfl
      | true =>
        have : numB cs = true := by
          unfold numB
          simp at h1 ⊢
          omega
        cases h2 : cs.all isDig with
        | false => rfl
        | true => exact absurd ⟨this, h2⟩ hb
    unfold numD
    rw [this]
    rfl
theorem spl_le (sep : List Nat) : ∀ (l acc : List Nat) (k : Nat), ∀ p ∈ TL.spl sep k acc l, p.length ≤ acc.length + l.length
  | [], acc, k, p, hp => by
    rw [TL.spl_nil, List.mem_singleton] at hp
    subst hp
    simp
  | c :: r, acc, k + 1, p, hp => by
    have := spl_le sep r acc k p hp
    rw [List.length_cons]
    omega
  | c :: r, acc, 0, p, hp => by
    cases h : TL.pre sep (c :: r) with
    | true =>
      rw [TL.spl_hit h] at hp
      rcases List.mem_cons.mp hp with rfl | hp
      · omega
      · have := spl_le sep r [] (sep.length - 1) p hp
        simp at this ⊢
        omega
    | false =>
      rw [TL.spl_miss h] at hp
      have := spl_le sep r (acc ++ [c]) 0 p hp
      simp at this ⊢
      omega
def parts (cs : List Nat) : List (List Nat) := TL.spl [46] 0 [] cs
def verOk (cs : List Nat) : Bool := decide ((parts cs).length = 3) && (parts cs).all numOk
def verD (cs : List Nat) : D := if verOk cs then .tuple ((parts cs).map numD) else .none
theorem parts_le {cs p : List Nat} (h : p ∈ parts cs) : p.length ≤ cs.length := by
  have := spl_le [46] cs [] 0 p h
  simpa using this
theorem numD_none {cs : List Nat} : (numD cs).eqv .none = !numOk cs := by
  unfold numD
  cases numOk cs <;> rfl
theorem split_ok {cs : List Nat} (hl : cs.length ≤ 90000) (i : Nat) {ds : DS} {h : LH} (e : slot ds i = some (.val (.str (S cs)))) :
    eS1 gSplit (eVar i) (eC (.str ".")) ds h = .ok (.val (.list ((parts cs).map fun p => .str (S p)))) h := by
  have e1 : Txt.split (S cs) (Str.ofString ".") = (parts cs).map S := split_S (a := cs) (b := [46]) (by simp) (by rfl)
  have e2 : ((Str.ofString ".").length == 0) = false := by rfl
  have e3 : (S cs).length + 2 ≤ sizeLine := by rw [S_len]; simp [sizeLine]; omega
  have e0 : gSplit (S cs) (.val (.str (Str.ofString "."))) h = .ok (.val (.list ((parts cs).map fun p => .str (S p)))) h := by
    refine (iff_t ⟨e2, e3⟩ _).trans ?_
    rw [e1, List.map_map]
    rfl
  simp -implicitDefEqProofs [e, e0]
theorem plain_num : ∀ ps : List (List Nat), PyData.plainAll (ps.map numD) = true
  | [] => rfl
  | p :: r => by
    have : (numD p).plain = true := by unfold numD; cases numOk p <;> rfl
    rw [List.map_cons, PyData.plainAll, this, plain_num r]
    rfl
theorem spl_count (sep : List Nat) : ∀ (l acc : List Nat) (k : Nat), (TL.spl sep k acc l).length ≤ l.length + 1
  | [], acc, k => by rw [TL.spl_nil]; simp
  | c :: r, acc, k + 1 => Nat.le_trans (spl_count sep r acc k) (by simp)
  | c :: r, acc, 0 => by
    cases h : TL.pre sep (c :: r) with
    | true =>
      rw [TL.spl_hit h]
      have := spl_count sep r [] (sep.length - 1)
      simp at this ⊢
      omega
    | false =>
      rw [TL.spl_miss h]
      exact Nat.le_trans (spl_count sep r _ 0) (by simp)
theorem num_pure {cs : List Nat} (hl : cs.length ≤ 100000) (h : LH) : gPure run_number_of [.val (.str (S cs))] h = .ok (.val (numD cs)) h := by
  simp -implicitDefEqProofs [gPure, number_of_ok cs hl]
theorem map_nums {cs : List Nat} (hl : cs.length ≤ 90000) (a b c d : Option SV) (h : LH) :
    fLc (iSeq (eVar 1)) (tgName 3) tYes' (eArgs (nArgs 1 (gPure run_number_of)) (aCons (eVar 3) aNil)) [3] [a, some (.val (.list ((parts cs).map fun p => .str (S p)))), c, d] h = .ok ((parts cs).map numD) h := by
  have hz : (parts cs).length ≤ sizeLine := by
    have := spl_count [46] cs [] 0
    unfold parts
    simp [sizeLine]
    omega
  have key := compL_all (tg := tgName 3) (fe := eArgs (nArgs 1 (gPure run_number_of)) (aCons (eVar 3) aNil)) (ds := dwipe [a, some (.val (.list ((parts cs).map fun p => .str (S p)))), c, d] [3]) (h := h)
    (fun x => match x with | .str z => numD z.cps.toList | _ => .none) ((parts cs).map fun p => .str (S p)) (by
    intro x hx
    obtain ⟨p, hp, rfl⟩ := List.mem_map.mp hx
    refine ⟨_, by rw [u_tgName, if_pos (by simp [dwipe])], ?_⟩
    have := parts_le hp
    simp -implicitDefEqProofs [dwipe, num_pure (show p.length ≤ 100000 by omega)])
  rw [List.map_map] at key
  have hz' : (((parts cs).map fun p => PyData.str (S p)) : List D).length ≤ sizeLine := by rw [List.length_map]; exact hz
  rw [u_fLc]
  simp -implicitDefEqProofs [hz]
  exact key
theorem version_numbers_ok {cs : List Nat} (hl : cs.length ≤ 90000) (h : LH) : run_version_numbers [.val (.str (S cs))] h = .ok (.val (verD cs)) h := by
  rw [st_version_numbers]
  unfold b_version_numbers
  rw [guard_f (by simp -implicitDefEqProofs; rfl) rfl]
  rw [set_ok (split_ok hl 0 rfl) rfl rfl]
  simp only [List.set_cons_succ, List.set_cons_zero]
  unfold verD verOk
  by_cases h3 : (parts cs).length = 3
  · have t3 : tOf (eBin gNe (eArgs gLen (aCons (eVar 1) aNil)) (eC (.int 3))) [some (.val (.str (S cs))), some (.val (.list ((parts cs).map fun p => .str (S p)))), none, none] h = .ok false h := by
      simp -implicitDefEqProofs [h3]
    rw [guard_f t3 rfl]
    have t4 : eArgs gTuple (aCons (eFz (fLc (iSeq (eVar 1)) (tgName 3) tYes' (eArgs (nArgs 1 (gPure run_number_of)) (aCons (eVar 3) aNil)) [3])) aNil) [some (.val (.str (S cs))), some (.val (.list ((parts cs).map fun p => .str (S p)))), none, none] h = .ok (.val (.tuple ((parts cs).map numD))) h := by
      rw [u_eArgs, u_aCons, u_eFz, map_nums hl _ none]
      simp -implicitDefEqProofs
    rw [set_ok t4 rfl rfl]
    simp only [List.set_cons_succ, List.set_cons_zero]
    have t5 : tOf (eBin (gIn false) (eC .none) (eVar 2)) [some (.val (.str (S cs))), some (.val (.list ((parts cs).map fun p => .str (S p)))), some (.val (.tuple ((parts cs).map numD))), none] h = .ok (!(parts cs).all numOk) h := by
      have e1 : gIn false (.val .none) (.val (.tuple ((parts cs).map numD))) h = .ok (.val (.bool (!(parts cs).all numOk))) h := by
        refine (iff_t ⟨plain_num _, rfl⟩ _).trans ?_
        rw [List.any_map]
        congr 3
        rw [Bool.false_xor]
        induction parts cs with
        | nil => rfl
        | cons p r ih => rw [List.any_cons, List.all_cons, Bool.not_and, ih]; congr 1; exact numD_none
      simp -implicitDefEqProofs [e1]
    cases q : (parts cs).all numOk with
    | true =>
      rw [q] at t5
      rw [guard_f t5 (ret_ok (s := .val (.tuple ((parts cs).map numD))) rfl rfl), decide_eq_true h3]
      rfl
    | false =>
      rw [q] at t5
      rw [guard_t t5 (ret_ok rfl rfl), decide_eq_true h3]
      rfl
  · have t3 : tOf (eBin gNe (eArgs gLen (aCons (eVar 1) aNil)) (eC (.int 3))) [some (.val (.str (S cs))), some (.val (.list ((parts cs).map fun p => .str (S p)))), none, none] h = .ok true h := by
      have : ¬ ((parts cs).length : Int) = 3 := by omega
      simp -implicitDefEqProofs [this]
    rw [guard_t t3 (ret_ok rfl rfl), decide_eq_false h3]
    rfl
theorem version_none {d : D} (hd : isiS "str" (.val d) = some false) (h : LH) : run_version_numbers [.val d] h = .ok (.val .none) h := by
  rw [st_version_numbers]
  unfold b_version_numbers
  have t : tNot' (tTru (eIsi "str" (eVar 0))) [some (.val d), none, none, none] h = .ok true h := by
    rw [u_tNot_, u_tTru, u_eIsi, u_eVar]
    show (((orBad (isiS "str" (.val d)) _).bind _).bind _) = _
    rw [hd]
    rfl
  rw [guard_t t (ret_ok rfl rfl)]
  rfl
theorem num_good : ∀ v < 1000, numOk (TL.numL v) = true := by decide +kernel
theorem parts3 {x y z : List Nat} (hx : 46 ∉ x) (hy : 46 ∉ y) (hz : 46 ∉ z) : parts (TL.joinL [46] [x, y, z]) = [x, y, z] :=
  SX.spl_join (by simp) (by intro p hp; simp at hp; rcases hp with rfl | rfl | rfl <;> assumption)
theorem ver3 {x y z : List Nat} (hx : 46 ∉ x) (hy : 46 ∉ y) (hz : 46 ∉ z) : verOk (TL.joinL [46] [x, y, z]) = (numOk x && (numOk y && numOk z)) := by
  unfold verOk
  rw [parts3 hx hy hz]
  simp
theorem spl_dot {p r : List Nat} (h : 46 ∉ p) : TL.spl [46] 0 [] (p ++ 46 :: r) = p :: TL.spl [46] 0 [] r := by
  have := TL.spl_part1 (S := []) (acc := []) (rest := r) h
  simpa using this
theorem spl_end {p : List Nat} (h : 46 ∉ p) : TL.spl [46] 0 [] p = [p] := by
  have := TL.spl_last1 (S := []) (acc := []) h
  simpa using this
def str1 (p : List Nat) : D := .str (S p)
theorem join_ok {l : List (List Nat)} (hl : (l.map (·.length)).sum + l.length ≤ 80000) (h : LH) : gJoin (Str.ofString ".") (.val (.list (l.map str1))) h = .ok (.val (.str (S (TL.joinL [46] l)))) h := by
  have e1 : asStrs (l.map str1) = some (l.map S) := by
    exact (congrArg asStrs (List.map_map (f := S) (g := PyData.str) (l := l)).symm).trans (asStrs_map (l.map S))
  have e2 : (Str.ofString ".").length = 1 := by rfl
  have c : (((l.map S).map (·.length)).sum + (l.map S).length * (Str.ofString ".").length ≤ 16777216) := by
    rw [SX.lens, List.length_map, e2]
    omega
  have e3 : Txt.join (Str.ofString ".") (l.map S) = S (TL.joinL [46] l) := join_S [46] l
  show orBad (asStrs (l.map str1)) _ = _
  rw [e1]
  refine (iff_t c _).trans ?_
  rw [e3]
theorem joinL_len : ∀ l : List (List Nat), (TL.joinL [46] l).length ≤ (l.map (·.length)).sum + l.length
  | [] => by simp [TL.joinL]
  | [p] => by simp [TL.joinL]
  | p :: q :: r => by
    have := joinL_len (q :: r)
    simp [TL.joinL] at this ⊢
    omega
theorem numL_small {v : Nat} (h : v < 1000) : (TL.numL v).length ≤ 3 := TL.numL_len (by decide) h
theorem numL_nodot (v : Nat) : 46 ∉ TL.numL v := TL.numL_free (by decide)
theorem str_ok {v : Nat} (hv : v < 1000) (h : LH) : gStr [.val (.int v)] h = .ok (.val (str1 (TL.numL v))) h := by
  have : gStr [.val (.int v)] h = .ok (.val (.str (Str.ofString (toString ((v : Nat) : Int))))) h := iff_t (by omega) _
  rw [this, num_S]
  rfl
end Q
namespace Q
open PySem PySem.Spec PyProof.Rows L2 U SX
theorem starts_S {a b : List Nat} (hb : b ≠ []) : Txt.startswith (S a) (S b) = TL.pre b a := by
  have h := TL.at_iff (x := S a) (y := S b) hb 0
  rw [List.drop_zero] at h
  cases q : TL.pre b a with
  | true =>
    have := h.mpr (by exact q)
    unfold Txt.startswith
    rw [Bool.and_eq_true]
    exact ⟨decide_eq_true this.1, this.2⟩
  | false =>
    cases q2 : Txt.startswith (S a) (S b) with
    | false => rfl
    | true =>
      unfold Txt.startswith at q2
      rw [Bool.and_eq_true] at q2
      have := h.mp ⟨of_decide_eq_true q2.1, q2.2⟩
      rw [q] at this
      cases this
theorem sl_S_to {a : List Nat} (hl : a.length ≤ 1000000) {i : Int} (h0 : 0 ≤ i) (h : LH) : gSl (.val (.str (S a))) none (some i) h = .ok (.val (.str (S (a.take i.toNat)))) h := by
  have e : cutS (S a) none (some i) = S (a.take i.toNat) := (C8.cutS_slice _ _ _).trans (slice_to h0)
  show iff ((S a).length ≤ sizeLine) (Out.ok (SV.val (.str (cutS (S a) none (some i)))) h) = _
  rw [e]
  exact iff_t (by rw [S_len]; show _ ≤ 16777216; omega) _
theorem sl_S_from {a : List Nat} (hl : a.length ≤ 1000000) {i : Int} (h0 : 0 ≤ i) (h : LH) : gSl (.val (.str (S a))) (some i) none h = .ok (.val (.str (S (a.drop i.toNat)))) h := by
  have e : cutS (S a) (some i) none = S (a.drop i.toNat) := (C8.cutS_slice _ _ _).trans (slice_from h0)
  show iff ((S a).length ≤ sizeLine) (Out.ok (SV.val (.str (cutS (S a) (some i) none))) h) = _
  rw [e]
  exact iff_t (by rw [S_len]; show _ ≤ 16777216; omega) _
theorem eq_S (a b : List Nat) (h : LH) : gEq (.val (.str (S a))) (.val (.str (S b))) h = .ok (.val (.bool (decide (a = b)))) h := by
  rw [gEq_str]
  by_cases e : a = b
  · subst e; rw [decide_eq_true rfl, decide_eq_true rfl]
  · rw [decide_eq_false e, decide_eq_false (fun z => e (S_inj z))]
theorem ix0_S (c : Nat) (r : List Nat) (hl : r.length ≤ 1000000) (h : LH) : gIxA (.val (.str (S (c :: r)))) (.val (.int 0)) h = .ok (.val (.str (S [c]))) h := by
  have e : atI (c :: r) 0 = some c := U.atI_nat (c :: r) 0 (by simp)
  show iff ((S (c :: r)).length ≤ sizeLine) (orBad (atI (c :: r) 0) fun c => Out.ok (SV.val (PyData.str ⟨#[c]⟩)) h) = _
  rw [e]
  exact iff_t (by rw [S_len]; show r.length + 1 ≤ 16777216; omega) _
theorem add_S (a b : List Nat) (hl : a.length + b.length ≤ 1000000) (h : LH) : gAdd (.val (.str (S a))) (.val (.str (S b))) h = .ok (.val (.str (S (a ++ b)))) h := by
  show iff ((S a).length + (S b).length ≤ sizeLine) (Out.ok (SV.val (.str (S a ++ S b))) h) = _
  rw [S_cat]
  exact iff_t (by rw [S_len, S_len]; show _ ≤ 16777216; omega) _
/-! ### split, any separator -/
theorem split_S2 {cs : List Nat} (hl : cs.length ≤ 90000) {b : List Nat} (hb : b ≠ []) (hk : b.all (· < 256) = true) (h : LH) :
    gSplit (S cs) (.val (.str (S b))) h = .ok (.val (.list ((TL.spl b 0 [] cs).map str1))) h := by
  have e1 : Txt.split (S cs) (S b) = (TL.spl b 0 [] cs).map S := split_S hb hk
  have e2 : ((S b).length == 0) = false := by
    rw [S_len]
    cases b with
    | nil => exact absurd rfl hb
    | cons c r => rfl
  refine (iff_t ⟨e2, by rw [S_len]; show _ ≤ 16777216; omega⟩ _).trans ?_
  rw [e1, List.map_map]
  rfl
theorem free_bar : ∀ {p : List Nat}, 124 ∉ p → free [32, 124, 124, 32] p = true
  | [], _ => rfl
  | c :: r, h => by
    have h1 : 124 ∉ r := fun z => h (List.mem_cons_of_mem _ z)
    show (!(TL.pre [32, 124, 124, 32] (c :: (r ++ [32, 124, 124, 32]))) && free [32, 124, 124, 32] r) = true
    rw [free_bar h1, Bool.and_true]
    have : TL.pre [32, 124, 124, 32] (c :: (r ++ [32, 124, 124, 32])) = false := by
      unfold TL.pre
      cases r with
      | nil => simp
      | cons d t =>
        have : d ≠ 124 := fun z => h1 (by rw [z]; exact List.mem_cons_self)
        simp [this]
    rw [this]
    rfl
theorem spl_bar_end : ∀ (p : List Nat) (acc : List Nat), 124 ∉ p → TL.spl [32, 124, 124, 32] 0 acc p = [acc ++ p]
  | [], acc, _ => by rw [TL.spl_nil, List.append_nil]
  | c :: r, acc, h => by
    have h1 : 124 ∉ r := fun z => h (List.mem_cons_of_mem _ z)
    have : TL.pre [32, 124, 124, 32] (c :: r) = false := by
      unfold TL.pre
      cases r with
      | nil => simp
      | cons d t =>
        have : d ≠ 124 := fun z => h1 (by rw [z]; exact List.mem_cons_self)
        simp [this]
    rw [TL.spl_miss this, spl_bar_end r _ h1, List.append_assoc]
    rfl
theorem spl_bars : ∀ {l : List (List Nat)}, l ≠ [] → (∀ p ∈ l, 124 ∉ p) → TL.spl [32, 124, 124, 32] 0 [] (TL.joinL [32, 124, 124, 32] l) = l
  | [p], _, h => by
    show TL.spl _ 0 [] p = _
    rw [spl_bar_end p [] (h p (by simp))]
    rfl
  | p :: q :: r, _, h => by
    show TL.spl _ 0 [] (p ++ ([32, 124, 124, 32] ++ TL.joinL _ (q :: r))) = _
    rw [spl_free _ (by simp) (free_bar (h p (by simp))), spl_bars (by simp) (fun x hx => h x (List.mem_cons_of_mem _ hx))]
theorem join_S2 {b : List Nat} {l : List (List Nat)} (hl : (l.map (·.length)).sum + l.length * b.length ≤ 80000) (h : LH) : gJoin (S b) (.val (.list (l.map str1))) h = .ok (.val (.str (S (TL.joinL b l)))) h := by
  have e1 : asStrs (l.map str1) = some (l.map S) := by
    exact (congrArg asStrs (List.map_map (f := S) (g := PyData.str) (l := l)).symm).trans (asStrs_map (l.map S))
  have c : (((l.map S).map (·.length)).sum + (l.map S).length * (S b).length ≤ 16777216) := by
    rw [SX.lens, List.length_map, S_len]
    omega
  show orBad (asStrs (l.map str1)) _ = _
  rw [e1]
  refine (iff_t c _).trans ?_
  rw [join_S]
theorem joinL_len2 (b : List Nat) : ∀ l : List (List Nat), (TL.joinL b l).length ≤ (l.map (·.length)).sum + l.length * b.length
  | [] => by simp [TL.joinL]
  | [p] => by simp [TL.joinL]
  | p :: q :: r => by
    have := joinL_len2 b (q :: r)
    simp [TL.joinL, Nat.succ_mul] at this ⊢
    omega
/-! ### three whole numbers in order -/
def lt3 (x y : Nat × Nat × Nat) : Bool := decide (x.1 < y.1 ∨ (x.1 = y.1 ∧ (x.2.1 < y.2.1 ∨ (x.2.1 = y.2.1 ∧ x.2.2 < y.2.2))))
def l3 (x : Nat × Nat × Nat) : List D := [.int x.1, .int x.2.1, .int x.2.2]
theorem lex_int (a b : Int) (l m : List (Int ⊕ List Nat)) : PyProof.Rows.lexLt itemOrd (@List.cons (Int ⊕ List Nat) (.inl a) l) (@List.cons (Int ⊕ List Nat) (.inl b) m) = (decide (a < b) || (!decide (b < a) && PyProof.Rows.lexLt itemOrd l m)) := lex_cons (O := itemOrd) _ _ _ _
theorem toks3 (x y : Nat × Nat × Nat) : PyProof.Rows.lexLt itemOrd (PySem.W.keyToksAll (l3 x)) (PySem.W.keyToksAll (l3 y)) = lt3 x y := by
  obtain ⟨a, b, c⟩ := x
  obtain ⟨d, e, f⟩ := y
  simp only [l3, PySem.W.keyToksAll, PySem.W.keyToks, List.cons_append, List.nil_append, lex_int, lt3]
  have h0 : PyProof.Rows.lexLt itemOrd (@List.nil (Int ⊕ List Nat)) (@List.nil (Int ⊕ List Nat)) = false := rfl
  rw [h0]
  rw [Bool.eq_iff_iff]
  simp
  omega
theorem lt_tup3 (x y : Nat × Nat × Nat) : PySem.W.dataLt (.tuple (l3 x)) (.tuple (l3 y)) = lt3 x y := toks3 x y
theorem lt_list3 (x y : Nat × Nat × Nat) : PySem.W.dataLt (.list (l3 x)) (.list (l3 y)) = lt3 x y := toks3 x y
end Q
namespace Q
open PySem PySem.Spec PyProof.Rows L2 U SX
abbrev T3 := Nat × Nat × Nat
/-- the parts are numbers of at most three digits -/
def T3.ok (t : T3) : Prop := t.1 < 1000 ∧ t.2.1 < 1000 ∧ t.2.2 < 1000
def verCs (t : T3) : List Nat := TL.joinL [46] [TL.numL t.1, TL.numL t.2.1, TL.numL t.2.2]
theorem verCs_eq (t : T3) : verCs t = TL.numL t.1 ++ (46 :: (TL.numL t.2.1 ++ (46 :: TL.numL t.2.2))) := rfl
theorem verCs_free {s : Nat} (h : s < 46 ∨ 57 < s) (t : T3) : s ∉ verCs t := by
  rw [verCs_eq]
  have h1 := TL.numL_free (n := t.1) (s := s) (by omega)
  have h2 := TL.numL_free (n := t.2.1) (s := s) (by omega)
  have h3 := TL.numL_free (n := t.2.2) (s := s) (by omega)
  simp [h1, h2, h3]
  omega
theorem verCs_len {t : T3} (h : t.ok) : (verCs t).length ≤ 11 := by
  rw [verCs_eq]
  have h1 := numL_small h.1
  have h2 := numL_small h.2.1
  have h3 := numL_small h.2.2
  simp
  omega
theorem verCs_ge (t : T3) : 5 ≤ (verCs t).length := by
  rw [verCs_eq]
  have h1 := List.length_pos_iff.mpr (TL.numL_ne t.1)
  have h2 := List.length_pos_iff.mpr (TL.numL_ne t.2.1)
  have h3 := List.length_pos_iff.mpr (TL.numL_ne t.2.2)
  simp
  omega
theorem parts_ver (t : T3) : parts (verCs t) = [TL.numL t.1, TL.numL t.2.1, TL.numL t.2.2] := parts3 (numL_nodot _) (numL_nodot _) (numL_nodot _)
theorem numD_num {v : Nat} (h : v < 1000) : numD (TL.numL v) = .int v := by
  unfold numD
  rw [num_good v h, TL.numL_val]
  rfl
theorem verD_ver {t : T3} (h : t.ok) : verD (verCs t) = .tuple (l3 t) := by
  unfold verD verOk
  rw [parts_ver]
  simp only [List.length_cons, List.length_nil, List.all_cons, List.all_nil, num_good _ h.1, num_good _ h.2.1, num_good _ h.2.2, List.map_cons, List.map_nil, numD_num h.1, numD_num h.2.1, numD_num h.2.2]
  rfl
theorem ver_pure {t : T3} (ht : t.ok) (h : LH) : gPure run_version_numbers [.val (.str (S (verCs t)))] h = .ok (.val (.tuple (l3 t))) h := by
  have := version_numbers_ok (cs := verCs t) (by have := verCs_len ht; omega) []
  rw [verD_ver ht] at this
  simp -implicitDefEqProofs [gPure, this]
/-! ### alternatives -/
inductive Alt where
  | star | one (k : Nat) (t : T3) | rng (lo hi : T3)
def pre1 (k : Nat) : List Nat := if k = 1 then [94] else if k = 2 then [126] else []
def Alt.text : Alt → List Nat
  | .star => [42]
  | .one k t => pre1 k ++ verCs t
  | .rng lo hi => [62, 61] ++ (verCs lo ++ ([32, 60] ++ verCs hi))
def Alt.ok : Alt → Prop
  | .star => True
  | .one k t => k < 3 ∧ t.ok
  | .rng lo hi => lo.ok ∧ hi.ok ∧ lt3 lo hi = true
def nextM (t : T3) : T3 := if 0 < t.1 then (t.1 + 1, 0, 0) else if 0 < t.2.1 then (0, t.2.1 + 1, 0) else (0, 0, t.2.2 + 1)
def nextK (k : Nat) (t : T3) : T3 := if k = 1 then nextM t else if k = 2 then (t.1, t.2.1 + 1, 0) else (t.1, t.2.1, t.2.2 + 1)
def Alt.lo : Alt → T3
  | .star => (0, 0, 0)
  | .one _ t => t
  | .rng lo _ => lo
def Alt.hi : Alt → Option T3
  | .star => none
  | .one k t => some (nextK k t)
  | .rng _ hi => some hi
def Alt.span (a : Alt) : D := .tuple [.tuple (l3 a.lo), match a.hi with | none => .none | some t => .tuple (l3 t)]
theorem next_major_ok (t : T3) (h : LH) : gPure run_next_major [.val (.tuple (l3 t))] h = .ok (.val (.tuple (l3 (nextM t)))) h := by
  obtain ⟨a, b, c⟩ := t
  have e : run_next_major [.val (.tuple (l3 (a, b, c)))] [] = .ok (.val (.tuple (l3 (nextM (a, b, c))))) [] := by
    rw [st_next_major]
    have e1 : b_next_major [some (.val (.tuple (l3 (a, b, c)))), none, none, none] [] = .rt (.val (.tuple (l3 (nextM (a, b, c))))) [] := by
      unfold b_next_major
      refine sq_nx (ds1 := [some (.val (.tuple (l3 (a, b, c)))), some (.val (.int a)), some (.val (.int b)), some (.val (.int c))]) (h1 := []) rfl ?_
      unfold nextM
      have gt : ∀ (x : Int), tOf (eBin gGt (eC (.int x)) (eC (.int 0))) [] [] = .ok (decide (0 < x)) [] := fun x => by simp -implicitDefEqProofs
      by_cases h1 : 0 < a
      · have h1' : (0 : Int) < a := by omega
        refine (guard_t (h1 := []) (tOf_ok (bin_ok rfl rfl ((gGt_int _ _ _).trans (by rw [decide_eq_true h1'])))) (ret_ok (b3_ok (bin_ok rfl rfl rfl) rfl rfl rfl) rfl)).trans ?_
        simp [h1, l3]
      · have h1' : ¬ (0 : Int) < a := by omega
        refine guard_f (h1 := []) (tOf_ok (bin_ok rfl rfl ((gGt_int _ _ _).trans (by rw [decide_eq_false h1'])))) ?_
        by_cases h2 : 0 < b
        · have h2' : (0 : Int) < b := by omega
          refine (guard_t (h1 := []) (tOf_ok (bin_ok rfl rfl ((gGt_int _ _ _).trans (by rw [decide_eq_true h2'])))) (ret_ok (b3_ok rfl (bin_ok rfl rfl rfl) rfl rfl) rfl)).trans ?_
          simp [h1, h2, l3]
        · have h2' : ¬ (0 : Int) < b := by omega
          refine guard_f (h1 := []) (tOf_ok (bin_ok rfl rfl ((gGt_int _ _ _).trans (by rw [decide_eq_false h2'])))) ?_
          refine (ret_ok (b3_ok rfl rfl (bin_ok rfl rfl rfl) rfl) rfl).trans ?_
          simp [h1, h2, l3]
    rw [e1]
    rfl
  simp -implicitDefEqProofs [gPure, e]
end Q
namespace Q
open PySem PySem.Spec PyProof.Rows L2 U SX
theorem spl_rng (lo hi : T3) : TL.spl [32, 60] 0 [] (verCs lo ++ ([32, 60] ++ verCs hi)) = [verCs lo, verCs hi] := by
  have h1 := TL.spl_part1 (S := [60]) (acc := []) (rest := verCs hi) (verCs_free (s := 32) (by decide) lo)
  have h2 := TL.spl_last1 (S := [60]) (acc := []) (verCs_free (s := 32) (by decide) hi)
  have h3 : ([32, 60] ++ verCs hi : List Nat) = 32 :: [60] ++ verCs hi := rfl
  rw [h3, h1, h2]
  rfl
theorem lt_tup_ok (x y : T3) (h : LH) : gLt (.val (.tuple (l3 x))) (.val (.tuple (l3 y))) h = .ok (.val (.bool (lt3 x y))) h := (gC_ok rfl h).trans (by rw [lt_tup3])
theorem le_tup_ok (x y : T3) (h : LH) : gLe (.val (.tuple (l3 x))) (.val (.tuple (l3 y))) h = .ok (.val (.bool (!lt3 y x))) h := (gC_ok rfl h).trans (by rw [lt_tup3])
theorem lt_list_ok (x y : T3) (h : LH) : gLt (.val (.list (l3 x))) (.val (.list (l3 y))) h = .ok (.val (.bool (lt3 x y))) h := (gC_ok rfl h).trans (by rw [lt_list3])
theorem le_list_ok (x y : T3) (h : LH) : gLe (.val (.list (l3 x))) (.val (.list (l3 y))) h = .ok (.val (.bool (!lt3 y x))) h := (gC_ok rfl h).trans (by rw [lt_list3])
theorem rng_len {lo hi : T3} (h1 : lo.ok) (h2 : hi.ok) : (verCs lo ++ ([32, 60] ++ verCs hi)).length ≤ 30 := by
  have := verCs_len h1
  have := verCs_len h2
  simp
  omega
theorem between_ok {lo hi : T3} (ho : (Alt.rng lo hi).ok) (h : LH) : gPure run_span_between [.val (.str (S (Alt.rng lo hi).text))] h = .ok (.val (Alt.rng lo hi).span) h := by
  obtain ⟨h1, h2, hlt⟩ := ho
  have hl := rng_len h1 h2
  have e1 := sl_S_from (a := (Alt.rng lo hi).text) (i := 2) (by show (verCs lo ++ ([32, 60] ++ verCs hi)).length + 1 + 1 ≤ _; omega) (by decide) []
  have e2 := split_S2 (cs := verCs lo ++ ([32, 60] ++ verCs hi)) (b := [32, 60]) (by omega) (by simp) (by rfl) []
  rw [spl_rng] at e2
  have n : ∀ t : T3, eBin (gIs false) (eC (.tuple (l3 t))) (eC .none) [] [] = .ok (.val (.bool false)) [] := fun t => rfl
  refine pure_ok (h' := []) ?_ rfl h
  rw [st_span_between]
  refine ok_fin ?_
  unfold b_span_between
  refine set_ok (s1_ok (sl_from rfl rfl e1) rfl e2) rfl ?_
  refine guard_f (h1 := []) (tOf_ok (bin_ok (b1_ok rfl rfl) rfl rfl)) ?_
  refine par_ok (aCons_ok (c1_ok (bin_ok rfl rfl (gIxA_list0 _ _ _)) (ver_pure h1 [])) (aCons_ok (c1_ok (bin_ok rfl rfl (gIxA_list1 _ _ _ _)) (ver_pure h2 [])) rfl)) rfl rfl ?_
  refine guard_f (h1 := []) (tOr_f (h1 := []) (tOf_ok (bin_ok rfl rfl rfl)) (tOr_f (h1 := []) (tOf_ok (bin_ok rfl rfl rfl)) (tNot_ok (b := true) (tOf_ok (bin_ok rfl rfl ((lt_tup_ok _ _ _).trans (by rw [hlt]))))))) ?_
  exact ret_ok (b2_ok rfl rfl rfl) rfl
theorem tilde_in (c : Nat) (h : LH) : gIn false (.val (.str (S [c]))) (.val (.tuple [.str "^", .str "~"])) h = .ok (.val (.bool (decide (c = 94) || decide (c = 126)))) h := by
  have e0 : gIn false (.val (.str (S [c]))) (.val (.tuple [.str "^", .str "~"])) h = iff (PyData.plainAll [.str "^", .str "~"] = true ∧ okD (.str (S [c])) = true) (.ok (.val (.bool (false ^^ ([PyData.str "^", PyData.str "~"]).any fun z => PyData.eqv z (.str (S [c]))))) h) := rfl
  rw [e0, iff_t ⟨rfl, rfl⟩]
  have e : ∀ d : Nat, decide (S [d] = S [c]) = decide (c = d) := fun d => by
    by_cases z : c = d
    · subst z; rw [decide_eq_true rfl, decide_eq_true rfl]
    · rw [decide_eq_false z, decide_eq_false (fun q => z (by have := S_inj q; simp at this; exact this.symm))]
  show Out.ok (SV.val (PyData.bool (false ^^ (decide (S [94] = S [c]) || (decide (S [126] = S [c]) || false))))) h = _
  rw [e, e, Bool.or_false, Bool.false_xor]
theorem one_span {c : Nat} {r : List Nat} {t : T3} (ht : t.ok) (hr : r ≠ []) (hl : r.length ≤ 100) (hc : c ≠ 62) (ha : (if c = 94 ∨ c = 126 then r else c :: r) = verCs t) (h : LH) :
    gPure run_span_of [.val (.str (S (c :: r)))] h = .ok (.val (Alt.one (if c = 94 then 1 else if c = 126 then 2 else 0) t).span) h := by
  have e0 := eq_S (c :: r) [42] []
  rw [decide_eq_false (by intro z; exact hr (List.cons.inj z).2)] at e0
  have e1 : TL.pre [62, 61] (c :: r) = false := by
    unfold TL.pre
    simp [hc]
  have e2 := starts_S (a := c :: r) (b := [62, 61]) (by simp)
  rw [e1] at e2
  have e3 : gStarts (S (c :: r)) (.val (.str (Str.ofString ">="))) [] = .ok (.val (.bool false)) [] := congrArg (fun b => Out.ok (SV.val (PyData.bool b)) []) e2
  have e4 := sl_S_to (a := c :: r) (i := 1) (by show r.length + 1 ≤ _; omega) (by decide) []
  have e5 := sl_S_from (a := c :: r) (i := 1) (by show r.length + 1 ≤ _; omega) (by decide) []
  have et := tilde_in c []
  have e6 := ix0_S c r (by omega) []
  have e7 := eq_S [c] [94] []
  have e8 := eq_S [c] [126] []
  have hm := next_major_ok t []
  have ev := ver_pure ht []
  obtain ⟨t1, t2, t3⟩ := t
  refine pure_ok (h' := []) ?_ rfl h
  rw [st_span_of]
  refine ok_fin ?_
  unfold b_span_of
  refine guard_f (h1 := []) (tOf_ok (bin_ok rfl rfl e0)) ?_
  refine guard_f (h1 := []) (tTru_b (s1_ok rfl rfl e3)) ?_
  by_cases hh : c = 94 ∨ c = 126
  · rw [if_pos hh] at ha
    subst ha
    refine set_ok (c1_ok (eIf_t (h1 := []) (tOf_ok (bin_ok (sl_to rfl rfl e4) rfl (et.trans (by rw [← Bool.decide_or, decide_eq_true hh])))) (sl_from rfl rfl e5)) ev) rfl ?_
    refine guard_f (h1 := []) (tOf_ok (bin_ok rfl rfl rfl)) ?_
    rcases hh with rfl | rfl
    · exact guard_t (h1 := []) (tOf_ok (bin_ok (bin_ok rfl rfl e6) rfl e7)) (ret_ok (b2_ok rfl (c1_ok rfl hm) rfl) rfl)
    · refine guard_f (h1 := []) (tOf_ok (bin_ok (bin_ok rfl rfl e6) rfl e7)) ?_
      exact guard_t (h1 := []) (tOf_ok (bin_ok (bin_ok rfl rfl e6) rfl e8)) (ret_ok (b2_ok rfl (b3_ok (bin_ok rfl rfl rfl) (bin_ok (bin_ok rfl rfl rfl) rfl rfl) rfl rfl) rfl) rfl)
  · have h1 : c ≠ 94 := fun z => hh (Or.inl z)
    have h2 : c ≠ 126 := fun z => hh (Or.inr z)
    rw [if_neg hh] at ha
    rw [← ha] at ev
    rw [decide_eq_false (fun z => h1 (by simpa using z))] at e7
    rw [decide_eq_false (fun z => h2 (by simpa using z))] at e8
    refine set_ok (c1_ok (eIf_f (h1 := []) (tOf_ok (bin_ok (sl_to rfl rfl e4) rfl (et.trans (by rw [← Bool.decide_or, decide_eq_false hh])))) rfl) ev) rfl ?_
    refine guard_f (h1 := []) (tOf_ok (bin_ok rfl rfl rfl)) ?_
    refine guard_f (h1 := []) (tOf_ok (bin_ok (bin_ok rfl rfl e6) rfl e7)) ?_
    refine guard_f (h1 := []) (tOf_ok (bin_ok (bin_ok rfl rfl e6) rfl e8)) ?_
    rw [if_neg h1, if_neg h2]
    exact ret_ok (b2_ok rfl (b3_ok (bin_ok rfl rfl rfl) (bin_ok rfl rfl rfl) (bin_ok (bin_ok rfl rfl rfl) rfl rfl) rfl) rfl) rfl
end Q
namespace Q
open PySem PySem.Spec PyProof.Rows L2 U SX
theorem head_dig (t : T3) : ∃ c r, verCs t = c :: r ∧ 48 ≤ c ∧ c ≤ 57 ∧ r ≠ [] := by
  rw [verCs_eq]
  cases e : TL.numL t.1 with
  | nil => exact absurd e (TL.numL_ne _)
  | cons c r =>
    have := TL.numL_digits t.1 c (by rw [e]; exact List.mem_cons_self)
    exact ⟨c, _, rfl, this.1, this.2, by simp⟩
theorem span_ok {a : Alt} (ha : a.ok) (h : LH) : gPure run_span_of [.val (.str (S a.text))] h = .ok (.val a.span) h := by
  cases a with
  | star =>
    refine pure_ok (h' := []) ?_ rfl h
    rw [st_span_of]
    refine ok_fin ?_
    unfold b_span_of
    exact guard_t (h1 := []) (tOf_ok (bin_ok rfl rfl (eq_S [42] [42] []))) (ret_ok (b2_ok (b3_ok rfl rfl rfl rfl) rfl rfl) rfl)
  | rng lo hi =>
    have hb := between_ok ha []
    obtain ⟨h1, h2, hlt⟩ := ha
    have e0 := eq_S (Alt.rng lo hi).text [42] []
    rw [decide_eq_false (by intro z; exact absurd (congrArg List.length z) (by show ¬ (verCs lo ++ ([32, 60] ++ verCs hi)).length + 1 + 1 = 1; omega))] at e0
    have e2 := starts_S (a := (Alt.rng lo hi).text) (b := [62, 61]) (by simp)
    have e1 : TL.pre [62, 61] (Alt.rng lo hi).text = true := TL.pre_self [62, 61] _
    rw [e1] at e2
    have e3 : gStarts (S (Alt.rng lo hi).text) (.val (.str (Str.ofString ">="))) [] = .ok (.val (.bool true)) [] := congrArg (fun b => Out.ok (SV.val (PyData.bool b)) []) e2
    refine pure_ok (h' := []) ?_ rfl h
    rw [st_span_of]
    refine ok_fin ?_
    unfold b_span_of
    refine guard_f (h1 := []) (tOf_ok (bin_ok rfl rfl e0)) ?_
    exact guard_t (h1 := []) (tTru_b (s1_ok rfl rfl e3)) (ret_ok (c1_ok rfl hb) rfl)
  | one k t =>
    obtain ⟨hk, ht⟩ := ha
    obtain ⟨c, r, e, h1, h2, h3⟩ := head_dig t
    have hl := verCs_len ht
    match k, hk with
    | 0, _ =>
      have := one_span (c := c) (r := r) ht h3 (by rw [e] at hl; simp at hl; omega) (by omega) (by rw [if_neg (by omega), e]) h
      rw [if_neg (by omega), if_neg (by omega)] at this
      have e2 : (Alt.one 0 t).text = c :: r := e
      rw [e2]
      exact this
    | 1, _ => exact one_span (c := 94) (r := verCs t) ht (by rw [e]; simp) (by omega) (by decide) rfl h
    | 2, _ => exact one_span (c := 126) (r := verCs t) ht (by rw [e]; simp) (by omega) (by decide) rfl h
/-! ### ranges -/
def wanted (l : List Alt) : List Nat := TL.joinL [32, 124, 124, 32] (l.map Alt.text)
theorem text_bar (a : Alt) : 124 ∉ a.text := by
  cases a with
  | star => decide
  | rng lo hi =>
    have h1 := verCs_free (s := 124) (by decide) lo
    have h2 := verCs_free (s := 124) (by decide) hi
    simp [Alt.text, h1, h2]
  | one k t =>
    have h1 := verCs_free (s := 124) (by decide) t
    show 124 ∉ pre1 k ++ verCs t
    unfold pre1
    by_cases e1 : k = 1
    · rw [if_pos e1]; simp [h1]
    · rw [if_neg e1]
      by_cases e2 : k = 2
      · rw [if_pos e2]; simp [h1]
      · rw [if_neg e2]; simp [h1]
theorem text_len {a : Alt} (h : a.ok) : a.text.length ≤ 40 := by
  cases a with
  | star => decide
  | rng lo hi =>
    have := verCs_len h.1
    have := verCs_len h.2.1
    simp [Alt.text]
    omega
  | one k t =>
    have := verCs_len h.2
    show (pre1 k ++ verCs t).length ≤ 40
    unfold pre1
    by_cases e1 : k = 1
    · rw [if_pos e1]; simp; omega
    · rw [if_neg e1]
      by_cases e2 : k = 2
      · rw [if_pos e2]; simp; omega
      · rw [if_neg e2]; simp; omega
theorem texts_len : ∀ {l : List Alt}, (∀ a ∈ l, a.ok) → ((l.map Alt.text).map (·.length)).sum ≤ 40 * l.length
  | [], _ => by simp
  | a :: r, h => by
    have h1 := text_len (h a (by simp))
    have h2 := texts_len (l := r) (fun b hb => h b (List.mem_cons_of_mem _ hb))
    simp at h2 ⊢
    omega
theorem wanted_len {l : List Alt} (h : ∀ a ∈ l, a.ok) (hl : l.length ≤ 10) : (wanted l).length ≤ 500 := by
  have h1 := joinL_len2 [32, 124, 124, 32] (l.map Alt.text)
  have h2 := texts_len h
  rw [List.length_map] at h1
  simp at h1
  unfold wanted
  simp at h2
  omega
theorem spl_wanted {l : List Alt} (hl : l ≠ []) : TL.spl [32, 124, 124, 32] 0 [] (wanted l) = l.map Alt.text :=
  spl_bars (by simpa using hl) (fun p hp => by
    obtain ⟨a, _, rfl⟩ := List.mem_map.mp hp
    exact text_bar a)
theorem plain_spans : ∀ l : List Alt, PyData.plainAll (l.map Alt.span) = true
  | [] => rfl
  | a :: r => by
    have : a.span.plain = true := by unfold Alt.span; cases a.hi <;> rfl
    rw [List.map_cons, PyData.plainAll, this, plain_spans r]
    rfl
theorem none_spans (l : List Alt) (h : LH) : gIn false (.val .none) (.val (.list (l.map Alt.span))) h = .ok (.val (.bool false)) h := by
  refine (show gIn false (.val .none) (.val (.list (l.map Alt.span))) h = iff (PyData.plainAll (l.map Alt.span) = true ∧ okD .none = true) (.ok (.val (.bool (false ^^ (l.map Alt.span).any fun z => PyData.eqv z .none))) h) from rfl).trans ?_
  rw [iff_t ⟨plain_spans l, rfl⟩, List.any_map]
  have : (l.any ((fun z => PyData.eqv z .none) ∘ Alt.span)) = false := by
    rw [List.any_eq_false]
    intro a _
    show ¬ (PyData.eqv a.span .none = true)
    exact Bool.false_ne_true
  rw [this]
  rfl
theorem spans_ok {l : List Alt} (hne : l ≠ []) (h : ∀ a ∈ l, a.ok) (hl : l.length ≤ 3) (hh : LH) : gPure run_spans_of [.val (.str (S (wanted l)))] hh = .ok (.val (.list (l.map Alt.span))) hh := by
  have hw := wanted_len h (by omega)
  have e1 := split_S2 (cs := wanted l) (b := [32, 124, 124, 32]) (by omega) (by simp) (by rfl) []
  rw [spl_wanted hne] at e1
  have e2 : fLc (iSeq (eVar 1)) (tgName 3) tYes' (eArgs (nArgs 1 (gPure run_span_of)) (aCons (eVar 3) aNil)) [3] [some (.val (.str (S (wanted l)))), some (.val (.list ((l.map Alt.text).map str1))), none, none] [] = .ok (l.map Alt.span) [] := by
    refine lc_ok (seq_ok rfl) (by rw [List.length_map, List.length_map]; show _ ≤ 16777216; omega) rfl ?_
    have key := compL_all (tg := tgName 3) (fe := eArgs (nArgs 1 (gPure run_span_of)) (aCons (eVar 3) aNil)) (ds := [some (.val (.str (S (wanted l)))), some (.val (.list ((l.map Alt.text).map str1))), none, none]) (h := [])
    rw [List.map_map]
    suffices H : ∀ m : List Alt, (∀ a ∈ m, a.ok) → compL (tgName 3) tYes' (eArgs (nArgs 1 (gPure run_span_of)) (aCons (eVar 3) aNil)) [some (.val (.str (S (wanted l)))), some (.val (.list ((l.map Alt.text).map str1))), none, none] (m.map (str1 ∘ Alt.text)) [] = .ok (m.map Alt.span) [] by
      have := H l h
      rw [List.map_map] at this
      exact this
    intro m
    induction m with
    | nil => intro _; rfl
    | cons a r ih =>
      intro hm
      have e3 := ih (fun b hb => hm b (List.mem_cons_of_mem _ hb))
      have e4 : eArgs (nArgs 1 (gPure run_span_of)) (aCons (eVar 3) aNil) [some (.val (.str (S (wanted l)))), some (.val (.list ((l.map Alt.text).map str1))), none, some (.val (str1 a.text))] [] = .ok (.val a.span) [] := c1_ok rfl (span_ok (hm a (by simp)) [])
      show ((Out.calm (eArgs (nArgs 1 (gPure run_span_of)) (aCons (eVar 3) aNil) [some (.val (.str (S (wanted l)))), some (.val (.list ((l.map Alt.text).map str1))), none, some (.val (str1 a.text))] [])).bind _) = _
      rw [e4]
      show ((compL _ _ _ _ (r.map (str1 ∘ Alt.text)) []).bind _) = _
      rw [e3]
      rfl
  refine pure_ok (h' := []) ?_ rfl hh
  rw [st_spans_of]
  refine ok_fin ?_
  unfold b_spans_of
  refine guard_f (h1 := []) rfl ?_
  refine set_ok (s1_ok rfl rfl e1) rfl ?_
  refine sq_nx (show sOwn 2 _ _ _ = _ from by rw [u_sOwn]; exact (congrArg (fun o : Out (List D) => o.so _ _) e2).trans rfl) ?_
  have hlen : ¬ (3 : Int) < ((l.map Alt.text).map str1).length := by rw [List.length_map, List.length_map]; omega
  refine sq_nx (fz_ok rfl (si_f (h1 := []) (tOr_f (h1 := []) (tOf_ok (bin_ok (b1_ok rfl rfl) rfl ((gGt_int _ _ _).trans (by rw [decide_eq_false hlen])))) (tOf_ok (bin_ok rfl rfl (none_spans l [])))) rfl)) ?_
  exact ret_ok rfl rfl
theorem range_ok {l : List Alt} (hne : l ≠ []) (h : ∀ a ∈ l, a.ok) (hl : l.length ≤ 3) (hh : LH) : gPure run_is_range [.val (.str (S (wanted l)))] hh = .ok (.val (.bool true)) hh := by
  refine pure_ok (h' := []) ?_ rfl hh
  rw [st_is_range]
  refine ok_fin ?_
  unfold b_is_range
  exact ret_ok (bin_ok (c1_ok rfl (spans_ok hne h hl [])) rfl rfl) rfl
end Q
namespace Q
open PySem PySem.Spec PyProof.Rows L2 U SX
def inA (v : T3) (a : Alt) : Bool := !lt3 v a.lo && (match a.hi with | none => true | some t => lt3 v t)
theorem within_ok (v : T3) (a : Alt) (h : LH) : gPure run_is_within [.val (.tuple (l3 v)), .val a.span] h = .ok (.val (.bool (inA v a))) h := by
  refine pure_ok (h' := []) ?_ rfl h
  rw [st_is_within]
  refine ok_fin ?_
  unfold b_is_within inA Alt.span
  cases a.hi with
  | none =>
    refine sq_nx (ds1 := [some (.val (.tuple (l3 v))), some (.val (.tuple [.tuple (l3 a.lo), .none])), some (.val (.tuple (l3 a.lo))), some (.val .none)]) (h1 := []) rfl ?_
    exact ret_ok (andV_ok (bin_ok rfl rfl (le_tup_ok _ _ _)) (orV_t (bin_ok rfl rfl rfl))) rfl
  | some t =>
    refine sq_nx (ds1 := [some (.val (.tuple (l3 v))), some (.val (.tuple [.tuple (l3 a.lo), .tuple (l3 t)])), some (.val (.tuple (l3 a.lo))), some (.val (.tuple (l3 t)))]) (h1 := []) rfl ?_
    exact ret_ok (andV_ok (bin_ok rfl rfl (le_tup_ok _ _ _)) (orV_f (bin_ok rfl rfl rfl) (bin_ok rfl rfl (lt_tup_ok _ _ _)))) rfl
theorem satisfies_ok {v : T3} (hv : v.ok) {l : List Alt} (hne : l ≠ []) (h : ∀ a ∈ l, a.ok) (hl : l.length ≤ 3) (hh : LH) :
    gPure run_satisfies [.val (str1 (verCs v)), .val (str1 (wanted l))] hh = .ok (.val (.bool (l.any (inA v)))) hh := by
  refine pure_ok (h' := []) ?_ rfl hh
  rw [st_satisfies]
  refine ok_fin ?_
  unfold b_satisfies
  refine set_ok (c1_ok rfl (ver_pure hv [])) rfl ?_
  refine guard_f (h1 := []) (tOf_ok (bin_ok rfl rfl rfl)) ?_
  refine set_ok (c1_ok rfl (spans_ok hne h hl [])) rfl ?_
  refine guard_f (h1 := []) (tOf_ok (bin_ok rfl rfl rfl)) ?_
  have key := compL_map2 (tg := tgName 4) (fe := eArgs (nArgs 2 (gPure run_is_within)) (aCons (eVar 2) (aCons (eVar 4) aNil)))
    (ds := [some (.val (str1 (verCs v))), some (.val (str1 (wanted l))), some (.val (.tuple (l3 v))), some (.val (.list (l.map Alt.span))), none]) (h := []) Alt.span (fun a => .bool (inA v a)) l
    (fun a _ => ⟨_, rfl, c2_ok rfl rfl (within_ok v a [])⟩)
  refine ret_ok (b1_ok (fz_e (lc_ok (seq_ok rfl) (by rw [List.length_map]; show _ ≤ 16777216; omega) rfl key)) ?_) rfl
  have := gAny_map (l.map (inA v)) []
  rw [List.map_map, List.any_map] at this
  exact this
end Q
namespace Q
open PySem PySem.Spec PyProof.Rows L2 U SX
/-! R: spans of any text -/
def verT (cs : List Nat) : T3 := match parts cs with
  | [a, b, c] => (NumText.digitsVal a, NumText.digitsVal b, NumText.digitsVal c)
  | _ => (0, 0, 0)
theorem verD_eq (cs : List Nat) : verD cs = if verOk cs then .tuple (l3 (verT cs)) else .none := by
  unfold verD
  cases h : verOk cs with
  | false => rfl
  | true =>
    have h2 := h
    unfold verOk at h2
    rw [Bool.and_eq_true] at h2
    obtain ⟨h3, h4⟩ := h2
    have h3 := of_decide_eq_true h3
    unfold verT
    match hp : parts cs, h3 with
    | [a, b, c], _ =>
      rw [hp] at h4
      simp at h4
      simp [numD, h4, l3]
theorem ver_any {cs : List Nat} (hl : cs.length ≤ 90000) (h : LH) : gPure run_version_numbers [.val (.str (S cs))] h = .ok (.val (if verOk cs then .tuple (l3 (verT cs)) else .none)) h := by
  have := version_numbers_ok (cs := cs) hl []
  rw [verD_eq] at this
  exact pure_ok this rfl h
def betw (cs : List Nat) : Option (T3 × T3) := match TL.spl [32, 60] 0 [] (cs.drop 2) with
  | [a, b] => if verOk a && (verOk b && lt3 (verT a) (verT b)) then some (verT a, verT b) else none
  | _ => none
def sp2 : Option (T3 × T3) → D
  | none => .none
  | some (a, b) => .tuple [.tuple (l3 a), .tuple (l3 b)]
theorem betw_ok {cs : List Nat} (hl : cs.length ≤ 1000) (h : LH) : gPure run_span_between [.val (.str (S cs))] h = .ok (.val (sp2 (betw cs))) h := by
  have e1 := sl_S_from (a := cs) (i := 2) (by omega) (by decide) []
  have e2 := split_S2 (cs := cs.drop 2) (b := [32, 60]) (by rw [List.length_drop]; omega) (by simp) (by rfl) []
  have hle := spl_le [32, 60] (cs.drop 2) [] 0
  refine pure_ok (h' := []) ?_ rfl h
  rw [st_span_between]
  refine ok_fin ?_
  unfold b_span_between betw
  refine set_ok (s1_ok (sl_from rfl rfl e1) rfl e2) rfl ?_
  match hp : TL.spl [32, 60] 0 [] (cs.drop 2) with
  | [a, b] =>
    rw [hp] at hle
    have la := hle a (by simp)
    have lb := hle b (by simp)
    simp at la lb
    have va := ver_any (cs := a) (by omega) []
    have vb := ver_any (cs := b) (by omega) []
    refine guard_f (h1 := []) (tOf_ok (bin_ok (b1_ok rfl rfl) rfl rfl)) ?_
    refine par_ok (aCons_ok (c1_ok (bin_ok rfl rfl (gIxA_list0 _ _ _)) va) (aCons_ok (c1_ok (bin_ok rfl rfl (gIxA_list1 _ _ _ _)) vb) rfl)) rfl rfl ?_
    cases ha : verOk a with
    | false => exact (guard_t (h1 := []) (tOr_t (tOf_ok (bin_ok rfl rfl rfl))) (ret_ok rfl rfl)).trans (by simp [ha, sp2])
    | true =>
      cases hb : verOk b with
      | false => exact (guard_t (h1 := []) (tOr_f (h1 := []) (tOf_ok (bin_ok rfl rfl rfl)) (tOr_t (tOf_ok (bin_ok rfl rfl rfl)))) (ret_ok rfl rfl)).trans (by simp [hb, sp2])
      | true =>
        cases hlt : lt3 (verT a) (verT b) with
        | false => exact (guard_t (h1 := []) (tOr_f (h1 := []) (tOf_ok (bin_ok rfl rfl rfl)) (tOr_f (h1 := []) (tOf_ok (bin_ok rfl rfl rfl)) (tNot_ok (b := false) (tOf_ok (bin_ok rfl rfl ((lt_tup_ok _ _ _).trans (by rw [hlt]))))))) (ret_ok rfl rfl)).trans (by simp [hlt, sp2])
        | true => exact (guard_f (h1 := []) (tOr_f (h1 := []) (tOf_ok (bin_ok rfl rfl rfl)) (tOr_f (h1 := []) (tOf_ok (bin_ok rfl rfl rfl)) (tNot_ok (b := true) (tOf_ok (bin_ok rfl rfl ((lt_tup_ok _ _ _).trans (by rw [hlt]))))))) (ret_ok (b2_ok rfl rfl rfl) rfl)).trans (by simp [ha, hb, hlt, sp2])
  | [] => exact guard_t (h1 := []) (tOf_ok (bin_ok (b1_ok rfl rfl) rfl rfl)) (ret_ok rfl rfl)
  | [a] => exact guard_t (h1 := []) (tOf_ok (bin_ok (b1_ok rfl rfl) rfl rfl)) (ret_ok rfl rfl)
  | a :: b :: c :: r =>
    have e : (((a :: b :: c :: r).map str1).length : Int) ≠ 2 := by simp; omega
    exact guard_t (h1 := []) (tOf_ok (bin_ok (b1_ok rfl rfl) rfl ((gNe_int _ _ _).trans (by rw [decide_eq_false e]; rfl)))) (ret_ok rfl rfl)
def strip1 : List Nat → List Nat
  | [] => []
  | c :: r => if c = 94 ∨ c = 126 then r else c :: r
def kind1 : List Nat → Nat
  | [] => 0
  | c :: _ => if c = 94 then 1 else if c = 126 then 2 else 0
def spanG (cs : List Nat) : D := if cs = [42] then Alt.star.span else if TL.pre [62, 61] cs = true then sp2 (betw cs) else if verOk (strip1 cs) then (Alt.one (kind1 cs) (verT (strip1 cs))).span else .none
theorem strip_cons (c : Nat) (r : List Nat) : strip1 (c :: r) = if c = 94 ∨ c = 126 then r else c :: r := rfl
theorem kind_cons (c : Nat) (r : List Nat) : kind1 (c :: r) = if c = 94 then 1 else if c = 126 then 2 else 0 := rfl
theorem strip_len (cs : List Nat) : (strip1 cs).length ≤ cs.length := by
  cases cs with
  | nil => exact Nat.le_refl _
  | cons c r =>
    rw [strip_cons]
    by_cases h : c = 94 ∨ c = 126
    · rw [if_pos h]; exact Nat.le_succ _
    · rw [if_neg h]; exact Nat.le_refl _
theorem stripped {cs : List Nat} (hl : cs.length ≤ 1000) (t : Option SV) (h : LH) : eIf (tOf (eBin (gIn false) (eSl (eVar 0) oNone (oSome (eC (.int 1)))) (eArgs gTup (aCons (eC (.str "^")) (aCons (eC (.str "~")) aNil))))) (eSl (eVar 0) (oSome (eC (.int 1))) oNone) (eVar 0) [some (.val (.str (S cs))), t] h = .ok (.val (.str (S (strip1 cs)))) h := by
  cases cs with
  | nil =>
    have e4 := sl_S_to (a := []) (i := 1) (by decide) (by decide) h
    have et : gIn false (.val (.str (S []))) (.val (.tuple [.str "^", .str "~"])) h = .ok (.val (.bool false)) h := by
      have e0 : gIn false (.val (.str (S []))) (.val (.tuple [.str "^", .str "~"])) h = iff (PyData.plainAll [.str "^", .str "~"] = true ∧ okD (.str (S [])) = true) (.ok (.val (.bool (false ^^ ([PyData.str "^", PyData.str "~"]).any fun z => PyData.eqv z (.str (S []))))) h) := rfl
      rw [e0, iff_t ⟨rfl, rfl⟩]
      rfl
    exact eIf_f (h1 := h) (tOf_ok (bin_ok (sl_to rfl rfl e4) rfl et)) rfl
  | cons c r =>
    have hl' : r.length + 1 ≤ 1000 := hl
    have e4 := sl_S_to (a := c :: r) (i := 1) (by show r.length + 1 ≤ _; omega) (by decide) h
    have e5 := sl_S_from (a := c :: r) (i := 1) (by show r.length + 1 ≤ _; omega) (by decide) h
    have et := tilde_in c h
    rw [strip_cons]
    by_cases hh : c = 94 ∨ c = 126
    · rw [if_pos hh]
      exact eIf_t (h1 := h) (tOf_ok (bin_ok (sl_to rfl rfl e4) rfl (et.trans (by rw [← Bool.decide_or, decide_eq_true hh])))) (sl_from rfl rfl e5)
    · rw [if_neg hh]
      exact eIf_f (h1 := h) (tOf_ok (bin_ok (sl_to rfl rfl e4) rfl (et.trans (by rw [← Bool.decide_or, decide_eq_false hh])))) rfl
theorem span_any {cs : List Nat} (hl : cs.length ≤ 1000) (h : LH) : gPure run_span_of [.val (.str (S cs))] h = .ok (.val (spanG cs)) h := by
  have e0 := eq_S cs [42] []
  have e2 := starts_S (a := cs) (b := [62, 61]) (by simp)
  have e3 : gStarts (S cs) (.val (.str (Str.ofString ">="))) [] = .ok (.val (.bool (TL.pre [62, 61] cs))) [] := congrArg (fun b => Out.ok (SV.val (PyData.bool b)) []) e2
  have es := stripped hl none []
  have hls := strip_len cs
  have ev := ver_any (cs := strip1 cs) (by omega) []
  refine pure_ok (h' := []) ?_ rfl h
  rw [st_span_of]
  refine ok_fin ?_
  unfold b_span_of spanG
  by_cases h42 : cs = [42]
  · rw [decide_eq_true h42] at e0
    rw [if_pos h42]
    exact guard_t (h1 := []) (tOf_ok (bin_ok rfl rfl e0)) (ret_ok (b2_ok (b3_ok rfl rfl rfl rfl) rfl rfl) rfl)
  · rw [decide_eq_false h42] at e0
    rw [if_neg h42]
    refine guard_f (h1 := []) (tOf_ok (bin_ok rfl rfl e0)) ?_
    cases hp : TL.pre [62, 61] cs with
    | true =>
      rw [hp] at e3
      rw [if_pos rfl]
      exact guard_t (h1 := []) (tTru_b (s1_ok rfl rfl e3)) (ret_ok (c1_ok rfl (betw_ok hl [])) rfl)
    | false =>
      rw [hp] at e3
      rw [if_neg Bool.false_ne_true]
      refine guard_f (h1 := []) (tTru_b (s1_ok rfl rfl e3)) ?_
      cases hv : verOk (strip1 cs) with
      | false =>
        rw [hv, if_neg Bool.false_ne_true] at ev
        refine set_ok (c1_ok es ev) rfl ?_
        exact guard_t (h1 := []) (tOf_ok (bin_ok rfl rfl rfl)) (ret_ok rfl rfl)
      | true =>
        rw [hv, if_pos rfl] at ev
        rw [if_pos rfl]
        refine set_ok (c1_ok es ev) rfl ?_
        refine guard_f (h1 := []) (tOf_ok (bin_ok rfl rfl rfl)) ?_
        cases cs with
        | nil => exact absurd hv (by decide)
        | cons c r =>
          have hl' : r.length + 1 ≤ 1000 := hl
          have e6 := ix0_S c r (by omega) []
          have e7 := eq_S [c] [94] []
          have e8 := eq_S [c] [126] []
          have hm := next_major_ok (verT (strip1 (c :: r))) []
          generalize hvt : verT (strip1 (c :: r)) = vt at *
          obtain ⟨t1, t2, t3⟩ := vt
          by_cases h1 : c = 94
          · subst h1
            exact guard_t (h1 := []) (tOf_ok (bin_ok (bin_ok rfl rfl e6) rfl e7)) (ret_ok (b2_ok rfl (c1_ok rfl hm) rfl) rfl)
          · rw [decide_eq_false (fun z => h1 (by simpa using z))] at e7
            refine guard_f (h1 := []) (tOf_ok (bin_ok (bin_ok rfl rfl e6) rfl e7)) ?_
            by_cases h2 : c = 126
            · subst h2
              exact guard_t (h1 := []) (tOf_ok (bin_ok (bin_ok rfl rfl e6) rfl e8)) (ret_ok (b2_ok rfl (b3_ok (bin_ok rfl rfl rfl) (bin_ok (bin_ok rfl rfl rfl) rfl rfl) rfl rfl) rfl) rfl)
            · rw [decide_eq_false (fun z => h2 (by simpa using z))] at e8
              refine guard_f (h1 := []) (tOf_ok (bin_ok (bin_ok rfl rfl e6) rfl e8)) ?_
              rw [kind_cons, if_neg h1, if_neg h2]
              exact ret_ok (b2_ok rfl (b3_ok (bin_ok rfl rfl rfl) (bin_ok rfl rfl rfl) (bin_ok (bin_ok rfl rfl rfl) rfl rfl) rfl) rfl) rfl
def isNo : D → Bool
  | .none => true
  | _ => false
theorem eqv_no (d : D) : PyData.eqv d .none = isNo d := by cases d <;> rfl
theorem alt_plain (a : Alt) : a.span.plain = true := by unfold Alt.span; cases a.hi <;> rfl
theorem spanG_plain (cs : List Nat) : (spanG cs).plain = true := by
  unfold spanG
  by_cases h : cs = [42]
  · rw [if_pos h]; exact alt_plain _
  · rw [if_neg h]
    cases TL.pre [62, 61] cs with
    | true =>
      rw [if_pos rfl]
      cases betw cs with
      | none => rfl
      | some p => rfl
    | false =>
      rw [if_neg Bool.false_ne_true]
      cases verOk (strip1 cs) with
      | true => exact alt_plain _
      | false => rfl
theorem plain_map (f : List Nat → D) (hf : ∀ p, (f p).plain = true) : ∀ l : List (List Nat), PyData.plainAll (l.map f) = true
  | [] => rfl
  | p :: r => by rw [List.map_cons, PyData.plainAll, hf p, plain_map f hf r]; rfl
def bars (cs : List Nat) : List (List Nat) := TL.spl [32, 124, 124, 32] 0 [] cs
def rangeOk (cs : List Nat) : Bool := decide ((bars cs).length ≤ 3) && !((bars cs).any fun p => isNo (spanG p))
theorem spans_any {cs : List Nat} (hl : cs.length ≤ 1000) (hh : LH) : gPure run_spans_of [.val (.str (S cs))] hh = .ok (.val (if rangeOk cs then .list ((bars cs).map spanG) else .none)) hh := by
  have e1 := split_S2 (cs := cs) (b := [32, 124, 124, 32]) (by omega) (by simp) (by rfl) []
  have hle := spl_le [32, 124, 124, 32] cs [] 0
  have hn := spl_count [32, 124, 124, 32] cs [] 0
  have key := compL_map2 (tg := tgName 3) (fe := eArgs (nArgs 1 (gPure run_span_of)) (aCons (eVar 3) aNil)) (ds := [some (.val (.str (S cs))), some (.val (.list ((bars cs).map str1))), none, none]) (h := []) str1 spanG (bars cs)
    (fun p hp => ⟨_, rfl, c1_ok rfl (span_any (by have := hle p hp; simp at this; omega) [])⟩)
  have hz : ((bars cs).map str1).length ≤ sizeLine := by rw [List.length_map]; show (bars cs).length ≤ 16777216; unfold bars; omega
  refine pure_ok (h' := []) ?_ rfl hh
  rw [st_spans_of]
  refine ok_fin ?_
  unfold b_spans_of
  refine guard_f (h1 := []) rfl ?_
  refine set_ok (s1_ok rfl rfl e1) rfl ?_
  refine own_ok (lc_ok (seq_ok rfl) hz rfl key) ?_
  have t1 : ∀ s : Option SV, tOf (eBin gGt (eArgs gLen (aCons (eVar 1) aNil)) (eC (.int 3))) [some (.val (.str (S cs))), some (.val (.list ((bars cs).map str1))), some (.val (.list ((bars cs).map spanG))), s] [] = .ok (decide ((3 : Int) < (((bars cs).map str1).length : Nat))) [] :=
    fun s => tOf_ok (bin_ok (b1_ok rfl rfl) rfl (gGt_int _ _ _))
  have t2 : ∀ s : Option SV, tOf (eBin (gIn false) (eC .none) (eVar 2)) [some (.val (.str (S cs))), some (.val (.list ((bars cs).map str1))), some (.val (.list ((bars cs).map spanG))), s] [] = .ok ((bars cs).any fun p => isNo (spanG p)) [] := fun s => by
    refine tOf_ok (bin_ok rfl rfl ?_)
    refine (show gIn false (.val .none) (.val (.list ((bars cs).map spanG))) [] = iff (PyData.plainAll ((bars cs).map spanG) = true ∧ okD .none = true) (.ok (.val (.bool (false ^^ ((bars cs).map spanG).any fun z => PyData.eqv z .none))) []) from rfl).trans ?_
    rw [iff_t ⟨plain_map _ spanG_plain _, rfl⟩, List.any_map, Bool.false_xor]
    have e : ((fun z => PyData.eqv z PyData.none) ∘ spanG) = fun p => isNo (spanG p) := funext fun p => eqv_no _
    rw [e]
  unfold rangeOk
  rw [List.length_map] at t1
  by_cases h3 : (bars cs).length ≤ 3
  · rw [decide_eq_true h3]
    cases ha : (bars cs).any fun p => isNo (spanG p) with
    | true => exact sq_rt (fz_ok rfl (si_t (tOr_f ((t1 _).trans (by rw [decide_eq_false (by omega)])) ((t2 _).trans (by rw [ha]))) (ret_ok rfl rfl)))
    | false => exact sq_nx (fz_ok rfl (si_f (tOr_f ((t1 _).trans (by rw [decide_eq_false (by omega)])) ((t2 _).trans (by rw [ha]))) rfl)) (ret_ok rfl rfl)
  · rw [decide_eq_false h3]
    exact sq_rt (fz_ok rfl (si_t (tOr_t ((t1 _).trans (by rw [decide_eq_true (by omega)]))) (ret_ok rfl rfl)))
theorem is_range_any {cs : List Nat} (hl : cs.length ≤ 1000) (hh : LH) : gPure run_is_range [.val (.str (S cs))] hh = .ok (.val (.bool (rangeOk cs))) hh := by
  have e := spans_any hl []
  refine pure_ok (h' := []) ?_ rfl hh
  rw [st_is_range]
  refine ok_fin ?_
  unfold b_is_range
  refine ret_ok (bin_ok (c1_ok rfl e) rfl ?_) rfl
  cases rangeOk cs <;> rfl
end Q
namespace Q
open PySem PySem.Spec PyProof.Rows L2 U SX
theorem guard_exc {t : DS → LH → Out Bool} {g : SF} {n : Str} {ds : DS} {h h1 : LH} (e : t ds h = .ok true h1) : sSeq (sIf t (sRaise n) sNil) g ds h = .exc ⟨n, []⟩ ds h1 := by
  unfold sSeq
  rw [u_sIf, e]
  rfl
theorem exc_fin {o : SO} {x : XV} {ds : DS} {h : LH} (e : o = .exc x ds h) : fin o = .exc x h := by rw [e]; rfl
/-- satisfies, no version -/
theorem sat_version {v w : D} (hv : gPure run_version_numbers [.val v] [] = .ok (.val .none) []) (hh : LH) : gPure run_satisfies [.val v, .val w] hh = .exc ⟨"BadVersion", []⟩ hh := by
  refine pure_exc (h' := []) ?_ rfl hh
  rw [st_satisfies]
  refine exc_fin (ds := [some (.val v), some (.val w), some (.val .none), none, none]) ?_
  unfold b_satisfies
  refine set_ok (c1_ok rfl hv) rfl ?_
  exact guard_exc (h1 := []) (tOf_ok (bin_ok rfl rfl rfl))
theorem sat_range {v w : D} {l : List D} (hv : gPure run_version_numbers [.val v] [] = .ok (.val (.tuple l)) []) (hw : gPure run_spans_of [.val w] [] = .ok (.val .none) []) (hh : LH) : gPure run_satisfies [.val v, .val w] hh = .exc ⟨"BadRange", []⟩ hh := by
  refine pure_exc (h' := []) ?_ rfl hh
  rw [st_satisfies]
  refine exc_fin (ds := [some (.val v), some (.val w), some (.val (.tuple l)), some (.val .none), none]) ?_
  unfold b_satisfies
  refine set_ok (c1_ok rfl hv) rfl ?_
  refine guard_f (h1 := []) (tOf_ok (bin_ok rfl rfl rfl)) ?_
  refine set_ok (c1_ok rfl hw) rfl ?_
  exact guard_exc (h1 := []) (tOf_ok (bin_ok rfl rfl rfl))
theorem expr_exc {fe : DS → LH → Out SV} {ds : DS} {h h1 : LH} {x : XV} (e : fe ds h = .exc x h1) : sExpr fe ds h = .exc x ds h1 := by rw [u_sExpr, e]; rfl
theorem args2_exc {g : List SV → LH → Out SV} {fa fb : DS → LH → Out SV} {ds : DS} {h h1 h2 h3 : LH} {a b : SV} {x : XV} (ea : fa ds h = .ok a h1) (eb : fb ds h1 = .ok b h2) (e : g [a, b] h2 = .exc x h3) : eArgs (nArgs 2 g) (aCons fa (aCons fb aNil)) ds h = .exc x h3 := c2_ok ea eb e
theorem try_exc {sub : Str → Str → Option Bool} {fb : SF} {cs : List ClD} {ds ds1 : DS} {h h1 : LH} {x : XV} {r : SO} (c : clean ds = true) (e : fb ds h = .exc x ds1 h1) (c1 : clean ds1 = true) (k : catchL sub x cs ds1 h1 = r) : sTry sub fb cs ds h = r := by
  unfold sTry
  rw [e]
  exact (if_pos c).trans ((if_pos c1).trans k)
theorem try_nx {sub : Str → Str → Option Bool} {fb : SF} {cs : List ClD} {ds ds1 : DS} {h h1 : LH} (c : clean ds = true) (e : fb ds h = .nx ds1 h1) (c1 : clean ds1 = true) : sTry sub fb cs ds h = .nx ds1 h1 := by
  unfold sTry
  rw [e]
  exact (if_pos c).trans (if_pos c1)
theorem kind_version {v w : D} (hv : gPure run_version_numbers [.val v] [] = .ok (.val .none) []) (hh : LH) : gPure run_law_kind [.val v, .val w] hh = .ok (.val (.str "version")) hh := by
  refine pure_ok (h' := []) ?_ rfl hh
  rw [st_law_kind]
  refine ok_fin ?_
  unfold b_law_kind
  refine sq_rt (try_exc rfl (expr_exc (args2_exc rfl rfl (sat_version hv []))) rfl ?_)
  rfl
theorem kind_range {v w : D} {l : List D} (hv : gPure run_version_numbers [.val v] [] = .ok (.val (.tuple l)) []) (hw : gPure run_spans_of [.val w] [] = .ok (.val .none) []) (hh : LH) : gPure run_law_kind [.val v, .val w] hh = .ok (.val (.str "range")) hh := by
  refine pure_ok (h' := []) ?_ rfl hh
  rw [st_law_kind]
  refine ok_fin ?_
  unfold b_law_kind
  refine sq_rt (try_exc rfl (expr_exc (args2_exc rfl rfl (sat_range hv hw []))) rfl ?_)
  rfl
theorem kind_done {v w : D} {b : Bool} (hs : gPure run_satisfies [.val v, .val w] [] = .ok (.val (.bool b)) []) (hh : LH) : gPure run_law_kind [.val v, .val w] hh = .ok (.val (.str "done")) hh := by
  refine pure_ok (h' := []) ?_ rfl hh
  rw [st_law_kind]
  refine ok_fin ?_
  unfold b_law_kind
  refine sq_nx (try_nx (ds1 := [some (.val v), some (.val w), none]) (h1 := []) rfl ?_ rfl) (ret_ok rfl rfl)
  rw [u_sExpr, show eArgs (nArgs 2 (gPure run_satisfies)) (aCons (eVar 0) (aCons (eVar 1) aNil)) [some (.val v), some (.val w), none] [] = .ok (.val (.bool b)) [] from c2_ok rfl rfl hs]
  rfl
end Q
namespace Q
open PySem PySem.Spec PyProof.Rows L2 U SX
def gv : List T3 := [(1, 0, 0), (1, 2, 0), (2, 0, 0), (0, 3, 1), (0, 0, 4), (1, 10, 0)]
def goods : List Alt := .star :: (gv.map (.one 1) ++ (gv.map (.one 0) ++ (gv.map (.one 2) ++ [.rng (1, 0, 0) (2, 0, 0), .rng (0, 0, 0) (1, 0, 1), .rng (1, 1, 0) (999, 0, 0)])))
theorem gv_texts : ([.str "1.0.0", .str "1.2.0", .str "2.0.0", .str "0.3.1", .str "0.0.4", .str "1.10.0"] : List D) = gv.map fun t => str1 (verCs t) := rfl
theorem version_ok {h : LH} (hs : Strm h) : ∃ (t : T3) (h' : LH), t ∈ gv ∧ Strm h' ∧ gCall run_law_version [.ref 1] h = .ok (.val (str1 (verCs t))) h' := by
  obtain ⟨k, h1, e1, hk, s1, -⟩ := next_i hs (m := 6) (by decide)
  have hk6 : k < gv.length := by show k < 6; omega
  refine ⟨gv[k], h1, List.getElem_mem hk6, s1, call_ok ?_ rfl⟩
  rw [st_law_version]
  refine ok_fin ?_
  unfold b_law_version
  have el := gLst_ok (xs := [.val (.str "1.0.0"), .val (.str "1.2.0"), .val (.str "2.0.0"), .val (.str "0.3.1"), .val (.str "0.0.4"), .val (.str "1.10.0")]) (ds := gv.map fun t => str1 (verCs t)) rfl (show 6 ≤ sizeLine by decide) h
  have ex := gIxA_list (l := gv.map fun t => str1 (verCs t)) (i := k) (by rw [List.length_map]; exact hk6) h1
  rw [List.getElem_map] at ex
  exact ret_ok (bin_ok (args_ok rfl el) (c2_ok rfl rfl e1) ex) rfl
theorem alternative_ok {h : LH} (hs : Strm h) : ∃ (a : Alt) (h' : LH), a ∈ goods ∧ Strm h' ∧ gCall run_law_alternative [.ref 1] h = .ok (.val (str1 a.text)) h' := by
  obtain ⟨k, h1, e1, hk, s1, -⟩ := next_i hs (m := 8) (by decide)
  have f2 : ∀ (n : Int), tOf (eBin gLe (eVar 1) (eC (.int n))) [some (.ref 1), some (.val (.int k))] h1 = .ok (decide ((k : Int) ≤ n)) h1 := fun n => tOf_ok (bin_ok rfl rfl (gLe_int _ _ _))
  have f6 : tOf (eBin gEq (eVar 1) (eC (.int 6))) [some (.ref 1), some (.val (.int k))] h1 = .ok (decide ((k : Int) = 6)) h1 := tOf_ok (bin_ok rfl rfl (gEq_int _ _ _))
  by_cases k2 : k ≤ 2
  · refine ⟨.star, h1, by simp [goods], s1, call_ok ?_ rfl⟩
    rw [st_law_alternative]
    refine ok_fin ?_
    unfold b_law_alternative
    refine set_ok (c2_ok rfl rfl e1) rfl ?_
    exact guard_t (h1 := h1) ((f2 2).trans (by rw [decide_eq_true (by omega)])) (ret_ok rfl rfl)
  · by_cases k5 : k ≤ 5
    · obtain ⟨t, h2, ht, s2, e2⟩ := version_ok s1
      have hl : (verCs t).length ≤ 20 := (by decide +kernel : ∀ t ∈ gv, (verCs t).length ≤ 20) t ht
      refine ⟨.one 1 t, h2, by simp [goods, ht], s2, call_ok ?_ rfl⟩
      rw [st_law_alternative]
      refine ok_fin ?_
      unfold b_law_alternative
      refine set_ok (c2_ok rfl rfl e1) rfl ?_
      refine guard_f (h1 := h1) ((f2 2).trans (by rw [decide_eq_false (by omega)])) ?_
      exact guard_t (h1 := h1) ((f2 5).trans (by rw [decide_eq_true (by omega)])) (ret_ok (bin_ok rfl (c1_ok rfl e2) (add_S [94] (verCs t) (by simp; omega) h2)) rfl)
    · by_cases k6 : k = 6
      · obtain ⟨j, h2, e2, hj, s2, -⟩ := next_i s1 (m := 2) (by decide)
        obtain ⟨t, h3, ht, s3, e3⟩ := version_ok s2
        have hl : (verCs t).length ≤ 20 := (by decide +kernel : ∀ t ∈ gv, (verCs t).length ≤ 20) t ht
        have hj2 : j < 2 := by omega
        have el := gLst_ok (xs := [.val (.str ""), .val (.str "~")]) (ds := [str1 [], str1 [126]]) rfl (show 2 ≤ sizeLine by decide) h1
        obtain ⟨q, p, hq, hp, ex⟩ : ∃ (q : Nat) (p : List Nat), (q = 0 ∨ q = 2) ∧ p = pre1 q ∧ gIxA (.val (.list [str1 [], str1 [126]])) (.val (.int j)) h2 = .ok (.val (str1 p)) h2 := by
          match j, hj2 with
          | 0, _ => exact ⟨0, [], .inl rfl, rfl, rfl⟩
          | 1, _ => exact ⟨2, [126], .inr rfl, rfl, rfl⟩
        have hpl : p.length ≤ 1 := by rcases hq with rfl | rfl <;> (rw [hp]; decide)
        have a1 := add_S p (verCs t) (by omega) h3
        rw [hp] at a1 ex
        refine ⟨.one q t, h3, by rcases hq with rfl | rfl <;> simp [goods, ht], s3, call_ok ?_ rfl⟩
        rw [st_law_alternative]
        refine ok_fin ?_
        unfold b_law_alternative
        refine set_ok (c2_ok rfl rfl e1) rfl ?_
        refine guard_f (h1 := h1) ((f2 2).trans (by rw [decide_eq_false (by omega)])) ?_
        refine guard_f (h1 := h1) ((f2 5).trans (by rw [decide_eq_false (by omega)])) ?_
        exact guard_t (h1 := h1) (f6.trans (by rw [decide_eq_true (by omega)])) (ret_ok (bin_ok (bin_ok (args_ok rfl el) (c2_ok rfl rfl e2) ex) (c1_ok rfl e3) a1) rfl)
      · obtain ⟨j, h2, e2, hj, s2, -⟩ := next_i s1 (m := 3) (by decide)
        have hj3 : j < 3 := by omega
        have el := gLst_ok (xs := [.val (.str ">=1.0.0 <2.0.0"), .val (.str ">=0.0.0 <1.0.1"), .val (.str ">=1.1.0 <999.0.0")]) (ds := [str1 (Alt.rng (1, 0, 0) (2, 0, 0)).text, str1 (Alt.rng (0, 0, 0) (1, 0, 1)).text, str1 (Alt.rng (1, 1, 0) (999, 0, 0)).text]) rfl (show 3 ≤ sizeLine by decide) h1
        obtain ⟨a, ha, ex⟩ : ∃ a : Alt, a ∈ goods ∧ gIxA (.val (.list [str1 (Alt.rng (1, 0, 0) (2, 0, 0)).text, str1 (Alt.rng (0, 0, 0) (1, 0, 1)).text, str1 (Alt.rng (1, 1, 0) (999, 0, 0)).text])) (.val (.int j)) h2 = .ok (.val (str1 a.text)) h2 := by
          match j, hj3 with
          | 0, _ => exact ⟨.rng (1, 0, 0) (2, 0, 0), by simp [goods], rfl⟩
          | 1, _ => exact ⟨.rng (0, 0, 0) (1, 0, 1), by simp [goods], rfl⟩
          | 2, _ => exact ⟨.rng (1, 1, 0) (999, 0, 0), by simp [goods], rfl⟩
        refine ⟨a, h2, ha, s2, call_ok ?_ rfl⟩
        rw [st_law_alternative]
        refine ok_fin ?_
        unfold b_law_alternative
        refine set_ok (c2_ok rfl rfl e1) rfl ?_
        refine guard_f (h1 := h1) ((f2 2).trans (by rw [decide_eq_false (by omega)])) ?_
        refine guard_f (h1 := h1) ((f2 5).trans (by rw [decide_eq_false (by omega)])) ?_
        refine guard_f (h1 := h1) (f6.trans (by rw [decide_eq_false (by omega)])) ?_
        exact ret_ok (bin_ok (args_ok rfl el) (c2_ok rfl rfl e2) ex) rfl
end Q
namespace Q
open PySem PySem.Spec PyProof.Rows L2 U SX
def bad1 : List (List Nat) := [[], [32], [42, 42], [94], [126], [94, 42], [126, 42], [94, 94, 49, 46, 48, 46, 48], [94, 32, 49, 46, 48, 46, 48], [49, 46, 48], [49, 46, 48, 46, 48, 46, 48], [48, 49, 46, 48, 46, 48], [49, 46, 48, 48, 46, 48], [49, 46, 48, 46, 49, 48, 48, 48], [62, 61, 49, 46, 48, 46, 48], [60, 49, 46, 48, 46, 48]]
def bad2 : List (List Nat) := [[62, 61, 49, 46, 48, 46, 48, 60, 50, 46, 48, 46, 48], [62, 61, 49, 46, 48, 46, 48, 32, 32, 60, 50, 46, 48, 46, 48], [62, 61, 32, 49, 46, 48, 46, 48, 32, 60, 50, 46, 48, 46, 48], [62, 61, 49, 46, 48, 46, 48, 32, 60, 32, 50, 46, 48, 46, 48], [62, 61, 49, 46, 48, 46, 48, 32, 60, 61, 50, 46, 48, 46, 48], [62, 49, 46, 48, 46, 48, 32, 60, 50, 46, 48, 46, 48], [62, 61, 50, 46, 48, 46, 48, 32, 60, 50, 46, 48, 46, 48]]
def bad3 : List (List Nat) := [[62, 61, 50, 46, 48, 46, 48, 32, 60, 49, 46, 57, 46, 57], [62, 61, 49, 46, 48, 46, 48, 32, 60, 50, 46, 48, 46, 48, 32], [42, 32], [32, 42], [42, 124, 42], [49, 46, 48, 46, 48, 32], [61, 49, 46, 48, 46, 48], [49, 46, 48, 46, 120], [108, 97, 116, 101, 115, 116], [62, 61, 49, 46, 48, 46, 48, 32, 60, 50, 46, 48, 46, 48, 32, 60, 51, 46, 48, 46, 48], [94, 45, 49, 46, 48, 46, 48]]
def bad4 : List (List Nat) := [[42, 10], [94, 49, 46, 48, 46, 48, 10], [49, 46, 48, 46, 48, 10], [62, 61, 49, 46, 48, 46, 48, 32, 60, 50, 46, 48, 46, 48, 10], [42, 32, 124, 124, 32, 42, 10], [10, 42], [126, 49, 46, 48, 46, 48, 9], [94, 49, 46, 48, 46, 49, 95, 48]]
def badT : List (List Nat) := bad1 ++ (bad2 ++ (bad3 ++ bad4))
def barT : List Nat := [32, 124, 124, 32]
theorem bad_all : ∀ b ∈ badT, rangeOk b = false ∧ b.length ≤ 60 := by decide +kernel
theorem bad_good : ∀ a ∈ goods, ∀ b ∈ badT, rangeOk ((a.text ++ barT) ++ b) = false ∧ rangeOk ((b ++ barT) ++ a.text) = false := by decide +kernel
theorem good_six : ∀ a ∈ goods, rangeOk ((a.text ++ [124, 124]) ++ a.text) = false ∧ rangeOk ((a.text ++ [32, 124, 124]) ++ a.text) = false ∧ rangeOk ((a.text ++ [32, 124, 32]) ++ a.text) = false ∧
    rangeOk (TL.joinL barT [a.text, a.text, a.text, a.text]) = false ∧ rangeOk (a.text ++ barT) = false ∧ rangeOk (barT ++ a.text) = false ∧ a.text.length ≤ 40 := by decide +kernel
theorem good_ok : ∀ a ∈ goods, a.ok := by
  intro a ha
  have : ∀ a ∈ goods, (match a with
    | .star => true
    | .one k t => decide (k < 3) && (decide (t.1 < 1000) && (decide (t.2.1 < 1000) && decide (t.2.2 < 1000)))
    | .rng lo hi => (decide (lo.1 < 1000) && (decide (lo.2.1 < 1000) && decide (lo.2.2 < 1000))) && ((decide (hi.1 < 1000) && (decide (hi.2.1 < 1000) && decide (hi.2.2 < 1000))) && lt3 lo hi)) = true := by decide +kernel
  have h := this a ha
  cases a with
  | star => trivial
  | one k t =>
    simp at h
    exact ⟨h.1, h.2.1, h.2.2.1, h.2.2.2⟩
  | rng lo hi =>
    simp at h
    exact ⟨⟨h.1.1, h.1.2.1, h.1.2.2⟩, ⟨h.2.1.1, h.2.1.2.1, h.2.1.2.2⟩, h.2.2⟩
end Q
namespace Q
open PySem PySem.Spec PyProof.Rows L2 U SX
theorem add_list (a b : List D) (hz : a.length + b.length ≤ 1000000) (h : LH) : gAdd (.val (.list a)) (.val (.list b)) h = .ok (.val (.list (a ++ b))) h := iff_t (show a.length + b.length ≤ 16777216 by omega) _
theorem none_of {cs : List Nat} (hr : rangeOk cs = false) (hl : cs.length ≤ 1000) : gPure run_spans_of [.val (str1 cs)] [] = .ok (.val .none) [] := by
  have := spans_any hl []
  rw [hr] at this
  exact this
theorem v100 (h : LH) : gPure run_version_numbers [.val (.str "1.0.0")] h = .ok (.val (.tuple (l3 (1, 0, 0)))) h := ver_pure (t := (1, 0, 0)) ⟨by decide, by decide, by decide⟩ h
theorem v10 (h : LH) : gPure run_version_numbers [.val (.str "1.0")] h = .ok (.val .none) h := by
  have := ver_any (cs := [49, 46, 48]) (by decide) h
  rw [show verOk [49, 46, 48] = false by decide +kernel] at this
  exact this
def kinds (g b : List Nat) : List (List Nat) := [b, (g ++ barT) ++ b, (b ++ barT) ++ g, (g ++ [124, 124]) ++ g, (g ++ [32, 124, 124]) ++ g, (g ++ [32, 124, 32]) ++ g, TL.joinL barT [g, g, g, g], g ++ barT, barT ++ g]
theorem kinds_bad {a : Alt} (ha : a ∈ goods) {b : List Nat} (hb : b ∈ badT) : ∀ w ∈ kinds a.text b, rangeOk w = false ∧ w.length ≤ 1000 := by
  obtain ⟨h1, h2⟩ := bad_all b hb
  obtain ⟨h3, h4⟩ := bad_good a ha b hb
  obtain ⟨g1, g2, g3, g4, g5, g6, g7⟩ := good_six a ha
  intro w hw
  simp only [kinds, List.mem_cons, List.not_mem_nil, or_false] at hw
  have hbar : barT.length = 4 := rfl
  rcases hw with rfl | rfl | rfl | rfl | rfl | rfl | rfl | rfl | rfl
  · exact ⟨h1, by omega⟩
  · exact ⟨h3, by simp [hbar]; omega⟩
  · exact ⟨h4, by simp [hbar]; omega⟩
  · exact ⟨g1, by simp; omega⟩
  · exact ⟨g2, by simp; omega⟩
  · exact ⟨g3, by simp; omega⟩
  · exact ⟨g4, by simp [TL.joinL, hbar]; omega⟩
  · exact ⟨g5, by simp [hbar]; omega⟩
  · exact ⟨g6, by simp [hbar]; omega⟩
theorem loop_ok (ns : List Int) (h : LH) : ∃ t, forL (tgName 3) l_law_1 (badT.map str1) [some (.scr ns), some (.ref 1), some (.val (.list (badT.map str1))), none, none, none, none, none, none] h =
    .nx [some (.scr ns), some (.ref 1), some (.val (.list (badT.map str1))), t, none, none, none, none, none] h := by
  obtain ⟨ds', h', e, rfl, t, rfl⟩ := for_inv (ftg := tgName 3) (fb := l_law_1) (fun _ ds h' => h' = h ∧ ∃ t, ds = [some (.scr ns), some (.ref 1), some (.val (.list (badT.map str1))), t, none, none, none, none, none])
    (items := badT.map str1) (ds := [some (.scr ns), some (.ref 1), some (.val (.list (badT.map str1))), none, none, none, none, none, none]) (h := h) ⟨rfl, none, rfl⟩ (by
      rintro i w ds h' hw ⟨rfl, t, rfl⟩
      rw [List.getElem?_map] at hw
      obtain ⟨b, hb, rfl⟩ := Option.map_eq_some_iff.mp hw
      obtain ⟨h1, h2⟩ := bad_all b (List.mem_of_getElem? hb)
      have er := is_range_any (cs := b) (by omega) h'
      rw [h1] at er
      have e : l_law_1 [some (.scr ns), some (.ref 1), some (.val (.list (badT.map str1))), some (.val (str1 b)), none, none, none, none, none] h' = .nx [some (.scr ns), some (.ref 1), some (.val (.list (badT.map str1))), some (.val (str1 b)), none, none, none, none, none] h' := by
        unfold l_law_1
        exact si_f (tNot_ok (b := true) (tTru_b (c2_ok (c1_ok rfl er) rfl (same_eq (e := .bool false) rfl trivial h')))) rfl
      exact ⟨[some (.scr ns), some (.ref 1), some (.val (.list (badT.map str1))), some (.val (str1 b)), none, none, none, none, none], rfl, _, _, Or.inl e, rfl, _, rfl⟩)
  exact ⟨t, e⟩
end Q
namespace Q
open PySem PySem.Spec PyProof.Rows L2 U SX
theorem ne_f {x : Str} (h : LH) : gNe (.val (.str x)) (.val (.str x)) h = .ok (.val (.bool false)) h := (gNe_str _ _ _).trans (by rw [decide_eq_true rfl]; rfl)
theorem eq_t {x : Str} (h : LH) : gEq (.val (.str x)) (.val (.str x)) h = .ok (.val (.bool true)) h := (gEq_str _ _ _).trans (by rw [decide_eq_true rfl])
theorem ver_no {d : D} (hd : isiS "str" (.val d) = some false) : gPure run_version_numbers [.val d] [] = .ok (.val .none) [] := pure_ok (version_none hd []) rfl []
theorem range_no {d : D} (hd : isiS "str" (.val d) = some false) (h : LH) : gPure run_is_range [.val d] h = .ok (.val (.bool false)) h := by
  have e : gPure run_spans_of [.val d] [] = .ok (.val .none) [] := by
    refine pure_ok (h' := []) ?_ rfl []
    rw [st_spans_of]
    refine ok_fin ?_
    unfold b_spans_of
    refine guard_t (h1 := []) (tNot_ok (b := false) (tTru_b ?_)) (ret_ok rfl rfl)
    rw [u_eIsi, u_eVar]
    show ((orBad (isiS "str" (.val d)) _) : Out SV) = _
    rw [hd]
    rfl
  refine pure_ok (h' := []) ?_ rfl h
  rw [st_is_range]
  refine ok_fin ?_
  unfold b_is_range
  exact ret_ok (bin_ok (c1_ok rfl e) rfl rfl) rfl
theorem law_true (ns : List Int) (_ : ns.length ≤ 63) : ∃ h', run_law [.scr ns] [] = .ok (.val (.bool true)) h' := by
  obtain ⟨h0, e0, s0, -⟩ := stream_i ns (c := 3) (by decide) (by decide)
  obtain ⟨t3, el⟩ := loop_ok ns h0
  obtain ⟨k, h1, e1, hk, s1, -⟩ := next_i s0 (m := 60) (by decide)
  obtain ⟨a, h2, ha, s2, e2⟩ := alternative_ok s1
  obtain ⟨j, h3, e3, hj, s3, -⟩ := next_i s2 (m := 9) (by decide)
  obtain ⟨m, h4, e4, hm, s4, -⟩ := next_i s3 (m := 5) (by decide)
  have hlen : k % 42 < badT.length := by show k % 42 < 42; omega
  have hb : badT[k % 42] ∈ badT := List.getElem_mem hlen
  generalize hbb : badT[k % 42] = b at hb
  have ex := gIxA_list (l := badT.map str1) (i := k % 42) (by rw [List.length_map]; exact hlen) h1
  rw [List.getElem_map, hbb] at ex
  have em : gMod (.val (.int k)) (.val (.int ((badT.map str1).length : Nat))) h1 = .ok (.val (.int ((k % 42 : Nat) : Int))) h1 := (gMod_int (by decide) h1).trans (by rw [show (((badT.map str1).length : Nat) : Int) = 42 from rfl]; rfl)
  have lb := (bad_all b hb).2
  have la := (good_six a ha).2.2.2.2.2.2
  have hw : j < (kinds a.text b).length := by show j < 9; omega
  obtain ⟨hwr, hwl⟩ := kinds_bad ha hb _ (List.getElem_mem hw)
  have ew := gIxA_list (l := (kinds a.text b).map str1) (i := j) (by rw [List.length_map]; exact hw) h3
  rw [List.getElem_map] at ew
  generalize hww : (kinds a.text b)[j] = w at *
  have hbar : barT.length = 4 := rfl
  have g1 := add_S a.text barT (by omega) h2
  have g2 := add_S (a.text ++ barT) b (by simp; omega) h2
  have g3 := add_S b barT (by omega) h2
  have g4 := add_S (b ++ barT) a.text (by simp; omega) h2
  have g5 := add_S a.text [124, 124] (by simp; omega) h2
  have g6 := add_S (a.text ++ [124, 124]) a.text (by simp; omega) h2
  have g7 := add_S a.text [32, 124, 124] (by simp; omega) h2
  have g8 := add_S (a.text ++ [32, 124, 124]) a.text (by simp; omega) h2
  have g9 := add_S a.text [32, 124, 32] (by simp; omega) h2
  have g10 := add_S (a.text ++ [32, 124, 32]) a.text (by simp; omega) h2
  have g11 := add_S barT a.text (by omega) h2
  have jn := join_S2 (b := barT) (l := [a.text, a.text, a.text, a.text]) (by simp [hbar]; omega) h2
  have mu := gMul_list (l := [str1 a.text]) (i := 4) (by decide) (by decide) (show 4 ≤ sizeLine by decide) h2
  have er := is_range_any (cs := w) hwl h3
  rw [hwr] at er
  have kr := kind_range (w := str1 w) (v100 []) (none_of hwr hwl) h3
  have kv := kind_version (w := str1 w) (v10 []) h4
  have kn := kind_version (v := .none) (w := str1 a.text) (ver_no rfl) h4
  have kd := kind_done (satisfies_ok (v := (1, 0, 0)) ⟨by decide, by decide, by decide⟩ (l := [a]) (by simp) (by intro c hc; rw [List.mem_singleton] at hc; subst hc; exact good_ok c ha) (by simp) []) h4
  obtain ⟨o, eo, ho⟩ : ∃ o : D, gIxA (.val (.list [.none, .int 5, .tuple [.str "*"], .list [.str "*"], .str "1.0"])) (.val (.int m)) h4 = .ok (.val o) h4 ∧ gPure run_is_range [.val o] h4 = .ok (.val (.bool false)) h4 := by
    have hm5 : m < 5 := by omega
    match m, hm5 with
    | 0, _ => exact ⟨.none, rfl, range_no rfl h4⟩
    | 1, _ => exact ⟨.int 5, rfl, range_no rfl h4⟩
    | 2, _ => exact ⟨.tuple [.str "*"], rfl, range_no rfl h4⟩
    | 3, _ => exact ⟨.list [.str "*"], rfl, range_no rfl h4⟩
    | 4, _ =>
      refine ⟨.str "1.0", rfl, ?_⟩
      have := is_range_any (cs := [49, 46, 48]) (by decide) h4
      rw [show rangeOk [49, 46, 48] = false by decide +kernel] at this
      exact this
  refine ⟨h4, ?_⟩
  rw [st_law]
  refine ok_fin ?_
  unfold b_law
  refine set_ok (c3_ok rfl rfl rfl e0) rfl ?_
  refine set_ok (args_ok rfl (gLst_ok (ds := bad1.map str1) rfl (show 16 ≤ sizeLine by decide) h0)) rfl ?_
  refine set_ok (bin_ok rfl (args_ok rfl (gLst_ok (ds := bad2.map str1) rfl (show 7 ≤ sizeLine by decide) h0)) (add_list (bad1.map str1) (bad2.map str1) (by decide) h0)) rfl ?_
  refine set_ok (bin_ok rfl (args_ok rfl (gLst_ok (ds := bad3.map str1) rfl (show 11 ≤ sizeLine by decide) h0)) (add_list ((bad1.map str1) ++ (bad2.map str1)) (bad3.map str1) (by decide) h0)) rfl ?_
  refine set_ok (s := .val (.list (badT.map str1))) (bin_ok rfl (args_ok rfl (gLst_ok (ds := bad4.map str1) rfl (show 8 ≤ sizeLine by decide) h0)) (add_list (((bad1.map str1) ++ (bad2.map str1)) ++ bad3.map str1) (bad4.map str1) (by decide) h0)) rfl ?_
  refine sq_nx (for_it (seq_ok rfl) el) ?_
  refine set_ok (bin_ok rfl (bin_ok (c2_ok rfl rfl e1) (b1_ok rfl rfl) em) ex) rfl ?_
  refine set_ok (c1_ok rfl e2) rfl ?_
  refine set_ok (args_ok (aCons_ok rfl (aCons_ok (bin_ok (bin_ok rfl rfl g1) rfl g2) (aCons_ok (bin_ok (bin_ok rfl rfl g3) rfl g4) (aCons_ok (bin_ok (bin_ok rfl rfl g5) rfl g6) (aCons_ok (bin_ok (bin_ok rfl rfl g7) rfl g8) (aCons_ok (bin_ok (bin_ok rfl rfl g9) rfl g10) rfl)))))) (gLst_ok (ds := ((kinds a.text b).take 6).map str1) rfl (show 6 ≤ sizeLine by decide) h2)) rfl ?_
  refine set_ok (s := .val (.list ((kinds a.text b).map str1))) (bin_ok rfl (args_ok (aCons_ok (s1_ok rfl (bin_ok (b1_ok rfl (gLst_ok (ds := [str1 a.text]) rfl (show 1 ≤ sizeLine by decide) h2)) rfl mu) jn) (aCons_ok (bin_ok rfl rfl g1) (aCons_ok (bin_ok rfl rfl g11) rfl))) (gLst_ok (ds := ((kinds a.text b).drop 6).map str1) rfl (show 3 ≤ sizeLine by decide) h2)) (add_list (((kinds a.text b).take 6).map str1) (((kinds a.text b).drop 6).map str1) (show 6 + 3 ≤ 1000000 by decide) h2)) rfl ?_
  refine set_ok (bin_ok rfl (c2_ok rfl rfl e3) ew) rfl ?_
  refine guard_f (h1 := h3) (tOr_f (h1 := h3) (tNot_ok (b := true) (tTru_b (c2_ok (c1_ok rfl er) rfl (same_eq (e := .bool false) rfl trivial h3)))) (tOf_ok (bin_ok (c2_ok rfl rfl kr) rfl (ne_f h3)))) ?_
  refine set_ok (bin_ok (args_ok (aCons_ok rfl (aCons_ok rfl (aCons_ok (b1_ok rfl rfl) (aCons_ok (b1_ok rfl (gLst_ok (ds := [.str "*"]) rfl (show 1 ≤ sizeLine by decide) h3)) rfl)))) (gLst_ok (ds := [.none, .int 5, .tuple [.str "*"], .list [.str "*"], .str "1.0"]) rfl (show 5 ≤ sizeLine by decide) h3)) (c2_ok rfl rfl e4) eo) rfl ?_
  refine guard_f (h1 := h4) (tOr_f (h1 := h4) (tNot_ok (b := true) (tTru_b (c2_ok (c1_ok rfl ho) rfl (same_eq (e := .bool false) rfl trivial h4)))) (tOf_ok (bin_ok (c2_ok rfl rfl kv) rfl (ne_f h4)))) ?_
  exact ret_ok (andV_t (bin_ok (c2_ok rfl rfl kn) rfl (eq_t h4)) (bin_ok (c2_ok rfl rfl kd) rfl (eq_t h4))) rfl
end Q
namespace Q
open PySem PySem.Spec PyProof.Rows L2 U
/-! ### the text -/
def topS (i : Nat) : Stmt := PySem.Challenge.pw_peershelf_k02_no_ranges.main.body.getD i (.Pass ⟨0, 0, 0, 0⟩)
abbrev s_number_of : Stmt := topS 7
abbrev N_number_of : List Str := ["text", "char"]
theorem sc_number_of : FnScope N_number_of ["text"] (defScope s_number_of) := ⟨rfl, rfl, rfl, by decide +kernel, rfl, by decide +kernel, by decide +kernel⟩
abbrev s_next_major : Stmt := topS 9
abbrev N_next_major : List Str := ["numbers", "major", "minor", "patch"]
theorem sc_next_major : FnScope N_next_major ["numbers"] (defScope s_next_major) := ⟨rfl, rfl, rfl, by decide +kernel, rfl, by decide +kernel, by decide +kernel⟩
abbrev s_is_within : Stmt := topS 14
abbrev N_is_within : List Str := ["numbers", "span", "first", "bound"]
theorem sc_is_within : FnScope N_is_within ["numbers", "span"] (defScope s_is_within) := ⟨rfl, rfl, rfl, by decide +kernel, rfl, by decide +kernel, by decide +kernel⟩
abbrev s_law_cell : Stmt := topS 17
abbrev N_law_cell : List Str := ["_law_script", "_law_k"]
theorem sc_law_cell : FnScope N_law_cell ["_law_script", "_law_k"] (defScope s_law_cell) := ⟨rfl, rfl, rfl, by decide +kernel, rfl, by decide +kernel, by decide +kernel⟩
abbrev s_law_draws : Stmt := topS 18
abbrev N_law_draws : List Str := ["_law_cell_here", "_law_count", "_law_number", "_law_great", "_law_found", "_law_k", "_law_mixed"]
theorem sc_law_draws : FnScope N_law_draws ["_law_cell_here", "_law_count"] (defScope s_law_draws) := ⟨rfl, rfl, rfl, by decide +kernel, rfl, by decide +kernel, by decide +kernel⟩
abbrev s_law_next : Stmt := topS 20
abbrev N_law_next : List Str := ["_law_stream_here", "_law_many", "_law_digits", "_law_place", "_law_value"]
theorem sc_law_next : FnScope N_law_next ["_law_stream_here", "_law_many"] (defScope s_law_next) := ⟨rfl, rfl, rfl, by decide +kernel, rfl, by decide +kernel, by decide +kernel⟩
abbrev s_law_is_integer : Stmt := topS 21
abbrev N_law_is_integer : List Str := ["_law_actual"]
theorem sc_law_is_integer : FnScope N_law_is_integer ["_law_actual"] (defScope s_law_is_integer) := ⟨rfl, rfl, rfl, by decide +kernel, rfl, by decide +kernel, by decide +kernel⟩
abbrev s_version_numbers : Stmt := topS 8
abbrev N_version_numbers : List Str := ["value", "parts", "numbers", "part"]
theorem sc_version_numbers : FnScope N_version_numbers ["value"] (defScope s_version_numbers) := ⟨rfl, rfl, rfl, by decide +kernel, rfl, by decide +kernel, by decide +kernel⟩
abbrev s_law_stream : Stmt := topS 19
abbrev N_law_stream : List Str := ["_law_script", "_law_first", "_law_count", "_law_found", "_law_k"]
theorem sc_law_stream : FnScope N_law_stream ["_law_script", "_law_first", "_law_count"] (defScope s_law_stream) := ⟨rfl, rfl, rfl, by decide +kernel, rfl, by decide +kernel, by decide +kernel⟩
abbrev s_law_same : Stmt := topS 22
abbrev N_law_same : List Str := ["_law_actual", "_law_expected", "_law_k"]
theorem sc_law_same : FnScope N_law_same ["_law_actual", "_law_expected"] (defScope s_law_same) := ⟨rfl, rfl, rfl, by decide +kernel, rfl, by decide +kernel, by decide +kernel⟩
abbrev s_law_version : Stmt := topS 23
abbrev N_law_version : List Str := ["_law_stream_here"]
theorem sc_law_version : FnScope N_law_version ["_law_stream_here"] (defScope s_law_version) := ⟨rfl, rfl, rfl, by decide +kernel, rfl, by decide +kernel, by decide +kernel⟩
abbrev s_span_between : Stmt := topS 11
abbrev N_span_between : List Str := ["text", "parts", "first", "bound"]
theorem sc_span_between : FnScope N_span_between ["text"] (defScope s_span_between) := ⟨rfl, rfl, rfl, by decide +kernel, rfl, by decide +kernel, by decide +kernel⟩
abbrev s_law_alternative : Stmt := topS 24
abbrev N_law_alternative : List Str := ["_law_stream_here", "_law_kind_here"]
theorem sc_law_alternative : FnScope N_law_alternative ["_law_stream_here"] (defScope s_law_alternative) := ⟨rfl, rfl, rfl, by decide +kernel, rfl, by decide +kernel, by decide +kernel⟩
abbrev s_span_of : Stmt := topS 10
abbrev N_span_of : List Str := ["text", "numbers"]
theorem sc_span_of : FnScope N_span_of ["text"] (defScope s_span_of) := ⟨rfl, rfl, rfl, by decide +kernel, rfl, by decide +kernel, by decide +kernel⟩
abbrev s_spans_of : Stmt := topS 12
abbrev N_spans_of : List Str := ["value", "parts", "spans", "part"]
theorem sc_spans_of : FnScope N_spans_of ["value"] (defScope s_spans_of) := ⟨rfl, rfl, rfl, by decide +kernel, rfl, by decide +kernel, by decide +kernel⟩
abbrev s_is_range : Stmt := topS 13
abbrev N_is_range : List Str := ["value"]
theorem sc_is_range : FnScope N_is_range ["value"] (defScope s_is_range) := ⟨rfl, rfl, rfl, by decide +kernel, rfl, by decide +kernel, by decide +kernel⟩
abbrev s_satisfies : Stmt := topS 15
abbrev N_satisfies : List Str := ["version", "wanted", "numbers", "spans", "span"]
theorem sc_satisfies : FnScope N_satisfies ["version", "wanted"] (defScope s_satisfies) := ⟨rfl, rfl, rfl, by decide +kernel, rfl, by decide +kernel, by decide +kernel⟩
abbrev s_law_kind : Stmt := topS 25
abbrev N_law_kind : List Str := ["_law_version_here", "_law_wanted", "e"]
theorem sc_law_kind : FnScope N_law_kind ["_law_version_here", "_law_wanted"] (defScope s_law_kind) := ⟨rfl, rfl, rfl, by decide +kernel, rfl, by decide +kernel, by decide +kernel⟩
abbrev s_law : Stmt := topS 26
abbrev N_law : List Str := ["_law_script", "_law_stream_here", "_law_bad", "_law_text", "_law_one", "_law_good", "_law_kinds", "_law_wanted", "_law_other"]
theorem sc_law : FnScope N_law ["_law_script"] (defScope s_law) := ⟨rfl, rfl, rfl, by decide +kernel, rfl, by decide +kernel, by decide +kernel⟩
structure TopD (K : PySem.W.Frag) (mg : Str → Option Value) (x : String) (st : Stmt) (ps : List Str) (f : Addr) (fd : FuncData) : Prop where
  F : Fun K x x st f fd
  b : Binds K fd ps []
  g : mg x = some (.ref f)
structure TopX (K : PySem.W.Frag) (mg : Str → Option Value) (n : Str) (C : Addr) : Prop where
  g : mg n = some (.ref C)
  x : PySem.W.excIn K C [.type "ValueError", .type "Exception", .type "BaseException", .type "object"] "ValueError.__new__" = true
  k : PySem.W.keepIn K (.ref C) = true
  b : PySem.W.subIn K (.ref C) (.type "BaseException") = some true
  t : PySem.W.typeIn K (.ref C) = some (.type "type")
theorem boot_ValueError : bootBuiltins "ValueError" = some (.type "ValueError") := by boot_fast
structure Tx (K : PySem.W.Frag) (mg : Str → Option Value) (C_BadRange C_BadVersion C_ShelfError : Addr) : Prop where
  n_ValueError : mg "ValueError" = none
  n_abs : mg "abs" = none
  n_all : mg "all" = none
  n_any : mg "any" = none
  n_bool : mg "bool" = none
  n_int : mg "int" = none
  n_isinstance : mg "isinstance" = none
  n_len : mg "len" = none
  n_list : mg "list" = none
  n_range : mg "range" = none
  n_str : mg "str" = none
  n_tuple : mg "tuple" = none
  g_DIGITS : ∃ t, mg "DIGITS" = some (.str "0123456789" t)
  g_MOST_ALTERNATIVES : ∃ t, mg "MOST_ALTERNATIVES" = some (.int 3 t)
  x_BadRange : TopX K mg "BadRange" C_BadRange
  x_BadVersion : TopX K mg "BadVersion" C_BadVersion
  e_BadVersion : EX K mg "BadVersion" C_BadVersion
  e_BadRange : EX K mg "BadRange" C_BadRange
  e_ShelfError : EX K mg "ShelfError" C_ShelfError
  rows : ∀ r ∈ exRows, ExRow.ok K mg r
section
variable {P : Program} {w : World} {K : PySem.W.Frag} {mg : Str → Option Value} {base : Heap} {C_BadRange C_BadVersion C_ShelfError : Addr}
theorem ok_number_of {f : Addr} {fd : FuncData} (D : TopD K mg "number_of" s_number_of ["text"] f fd) (T : Tx K mg C_BadRange C_BadVersion C_ShelfError) : FnOk P w K mg base (L2.CX P w) 1 f fd ["text"] (spOf K mg 1 run_number_of) :=
  fn_ok (N := N_number_of) (fb := b_number_of) D.F sc_number_of fun cdv A outer s H E mu0 hr => (bm_cons (pm_if (wm_or (tm_not (tm_chain (od_le (hU hr)) (od_le (hU hr)) em_int (em_callB cd_len (by rfl) T.n_len PySem.boot_len (am_cons (em_var 0 rfl (by first | exact Or.inl rfl | exact Or.inr (Or.inl rfl) | exact Or.inr (Or.inr rfl))) am_nil)) em_int)) (wm_or1 (tm_not (tm_tru (em_callB (cd_all rfl) (by rfl) T.n_all boot_all (am_cons (em_fz (fm_lc (own := [("char", 1)]) (is := [1]) rfl sc_number_of.nd (im_str (em_var 0 rfl (by first | exact Or.inl rfl | exact Or.inr (Or.inl rfl) | exact Or.inr (Or.inr rfl)))) (blkOk_by (own := [("char", 1)]) (N := N_number_of) (sc := defScope s_number_of) (by decide +kernel)) (fun _ _ _ _ _ => (gm_name sc_number_of.nd rfl (by first | exact Or.inl rfl | exact Or.inr rfl))) (fun _ _ _ _ _ => sm_nil) (fun _ _ _ _ _ => (em_cmp (od_in (hU hr)) (em_var 1 rfl (by first | exact Or.inl rfl | exact Or.inr (Or.inl rfl) | exact Or.inr (Or.inr rfl))) (em_gstr (by rfl) T.g_DIGITS.choose_spec) (by rfl))) (by decide))) am_nil)))))).tm (bm_one (pm_ret em_none)) bm_nil)
    (bm_cons (pm_if (wm_and (tm_cmp (od_gt (hU hr)) (em_callB cd_len (by rfl) T.n_len PySem.boot_len (am_cons (em_var 0 rfl (by first | exact Or.inl rfl | exact Or.inr (Or.inl rfl) | exact Or.inr (Or.inr rfl))) am_nil)) em_int (by rfl)) (wm_and1 (tm_cmp (od_eq (hU hr)) (em_ixA (em_var 0 rfl (by first | exact Or.inl rfl | exact Or.inr (Or.inl rfl) | exact Or.inr (Or.inr rfl))) em_int (fun _ _ => rfl)) em_str (by rfl)))).tm (bm_one (pm_ret em_none)) bm_nil)
    (bm_one (pm_ret (em_callTy cd_int (by rfl) T.n_int boot_int (am_cons (em_var 0 rfl (by first | exact Or.inl rfl | exact Or.inr (Or.inl rfl) | exact Or.inr (Or.inr rfl))) am_nil))))))
theorem ok_next_major {f : Addr} {fd : FuncData} (D : TopD K mg "next_major" s_next_major ["numbers"] f fd) (T : Tx K mg C_BadRange C_BadVersion C_ShelfError) : FnOk P w K mg base (L2.CX P w) 1 f fd ["numbers"] (spOf K mg 1 run_next_major) :=
  fn_ok (N := N_next_major) (fb := b_next_major) D.F sc_next_major fun cdv A outer s H E mu0 hr => (bm_cons (pm_tg (em_var 0 rfl (by first | exact Or.inl rfl | exact Or.inr (Or.inl rfl) | exact Or.inr (Or.inr rfl))) (gm_tup rfl (gms_cons (gm_name sc_next_major.nd rfl (by first | exact Or.inl rfl | exact Or.inr rfl)) (gms_cons (gm_name sc_next_major.nd rfl (by first | exact Or.inl rfl | exact Or.inr rfl)) (gms_cons (gm_name sc_next_major.nd rfl (by first | exact Or.inl rfl | exact Or.inr rfl)) gms_nil)))))
    (bm_cons (pm_if (tm_cmp (od_gt (hU hr)) (em_var 1 rfl (by first | exact Or.inl rfl | exact Or.inr (Or.inl rfl) | exact Or.inr (Or.inr rfl))) em_int (by rfl)) (bm_one (pm_ret (em_tup (am_cons (em_op od_add (em_var 1 rfl (by first | exact Or.inl rfl | exact Or.inr (Or.inl rfl) | exact Or.inr (Or.inr rfl))) em_int) (am_cons em_int (am_cons em_int am_nil)))))) bm_nil)
    (bm_cons (pm_if (tm_cmp (od_gt (hU hr)) (em_var 2 rfl (by first | exact Or.inl rfl | exact Or.inr (Or.inl rfl) | exact Or.inr (Or.inr rfl))) em_int (by rfl)) (bm_one (pm_ret (em_tup (am_cons em_int (am_cons (em_op od_add (em_var 2 rfl (by first | exact Or.inl rfl | exact Or.inr (Or.inl rfl) | exact Or.inr (Or.inr rfl))) em_int) (am_cons em_int am_nil)))))) bm_nil)
    (bm_one (pm_ret (em_tup (am_cons em_int (am_cons em_int (am_cons (em_op od_add (em_var 3 rfl (by first | exact Or.inl rfl | exact Or.inr (Or.inl rfl) | exact Or.inr (Or.inr rfl))) em_int) am_nil)))))))))
theorem ok_is_within {f : Addr} {fd : FuncData} (D : TopD K mg "is_within" s_is_within ["numbers", "span"] f fd) (T : Tx K mg C_BadRange C_BadVersion C_ShelfError) : FnOk P w K mg base (L2.CX P w) 1 f fd ["numbers", "span"] (spOf K mg 2 run_is_within) :=
  fn_ok (N := N_is_within) (fb := b_is_within) D.F sc_is_within fun cdv A outer s H E mu0 hr => (bm_cons (pm_tg (em_var 1 rfl (by first | exact Or.inl rfl | exact Or.inr (Or.inl rfl) | exact Or.inr (Or.inr rfl))) (gm_tup rfl (gms_cons (gm_name sc_is_within.nd rfl (by first | exact Or.inl rfl | exact Or.inr rfl)) (gms_cons (gm_name sc_is_within.nd rfl (by first | exact Or.inl rfl | exact Or.inr rfl)) gms_nil))))
    (bm_one (pm_ret (em_and (em_cmp (od_le (hU hr)) (em_var 2 rfl (by first | exact Or.inl rfl | exact Or.inr (Or.inl rfl) | exact Or.inr (Or.inr rfl))) (em_var 0 rfl (by first | exact Or.inl rfl | exact Or.inr (Or.inl rfl) | exact Or.inr (Or.inr rfl))) (by rfl)) (em_one (em_or (em_cmp od_is (em_var 3 rfl (by first | exact Or.inl rfl | exact Or.inr (Or.inl rfl) | exact Or.inr (Or.inr rfl))) em_none (by rfl)) (em_one (em_cmp (od_lt (hU hr)) (em_var 0 rfl (by first | exact Or.inl rfl | exact Or.inr (Or.inl rfl) | exact Or.inr (Or.inr rfl))) (em_var 3 rfl (by first | exact Or.inl rfl | exact Or.inr (Or.inl rfl) | exact Or.inr (Or.inr rfl))) (by rfl)))))))))
theorem ok_law_cell {f : Addr} {fd : FuncData} (D : TopD K mg "_law_cell" s_law_cell ["_law_script", "_law_k"] f fd) (T : Tx K mg C_BadRange C_BadVersion C_ShelfError) : FnOk P w K mg base (L2.CX P w) 1 f fd ["_law_script", "_law_k"] (spOf K mg 2 run_law_cell) :=
  fn_ok (N := N_law_cell) (fb := b_law_cell) D.F sc_law_cell fun cdv A outer s H E mu0 hr => (bm_cons (pm_if (tm_cmp (od_lt (hU hr)) (em_var 1 rfl (by first | exact Or.inl rfl | exact Or.inr (Or.inl rfl) | exact Or.inr (Or.inr rfl))) (em_callB cd_len (by rfl) T.n_len PySem.boot_len (am_cons (em_var 0 rfl (by first | exact Or.inl rfl | exact Or.inr (Or.inl rfl) | exact Or.inr (Or.inr rfl))) am_nil)) (by rfl)) (bm_one (pm_ret (em_callTy cd_int (by rfl) T.n_int boot_int (am_cons (em_ixS (em_var 0 rfl (by first | exact Or.inl rfl | exact Or.inr (Or.inl rfl) | exact Or.inr (Or.inr rfl))) (em_var 1 rfl (by first | exact Or.inl rfl | exact Or.inr (Or.inl rfl) | exact Or.inr (Or.inr rfl))) (fun _ _ => rfl)) am_nil)))) bm_nil)
    (bm_one (pm_ret em_int)))
theorem ok_law_draws {f : Addr} {fd : FuncData} (D : TopD K mg "_law_draws" s_law_draws ["_law_cell_here", "_law_count"] f fd) (T : Tx K mg C_BadRange C_BadVersion C_ShelfError) : FnOk P w K mg base (L2.CX P w) 1 f fd ["_law_cell_here", "_law_count"] (spOf K mg 2 run_law_draws) :=
  fn_ok (N := N_law_draws) (fb := b_law_draws) D.F sc_law_draws fun cdv A outer s H E mu0 hr => (bm_cons (pm_set (i := 2) sc_law_draws.nd rfl (by first | exact Or.inl rfl | exact Or.inr rfl) (em_callB cd_abs (by rfl) T.n_abs boot_abs (am_cons (em_callTy cd_int (by rfl) T.n_int boot_int (am_cons (em_var 0 rfl (by first | exact Or.inl rfl | exact Or.inr (Or.inl rfl) | exact Or.inr (Or.inr rfl))) am_nil)) am_nil)))
    (bm_cons (pm_set (i := 3) sc_law_draws.nd rfl (by first | exact Or.inl rfl | exact Or.inr rfl) (em_cmp (od_ge (hU hr)) (em_var 2 rfl (by first | exact Or.inl rfl | exact Or.inr (Or.inl rfl) | exact Or.inr (Or.inr rfl))) (em_op od_pow em_int em_int) (by rfl)))
    (bm_cons (pm_own (i := 4) sc_law_draws.nd rfl (by first | exact Or.inl rfl | exact Or.inr rfl) (fm_lst am_nil))
    (bm_cons (pm_for (passes_of rfl) rfl (im_range1 (by rfl) T.n_range (am_cons em_int am_nil)) (gm_name sc_law_draws.nd rfl (by first | exact Or.inl rfl | exact Or.inr rfl)) (bm_one (pm_if (wm_and (tm_cmp (od_lt (hU hr)) (em_var 5 rfl (by first | exact Or.inl rfl | exact Or.inr (Or.inl rfl) | exact Or.inr (Or.inr rfl))) (em_var 1 rfl (by first | exact Or.inl rfl | exact Or.inr (Or.inl rfl) | exact Or.inr (Or.inr rfl))) (by rfl)) (wm_and1 (tm_tru (em_var 3 rfl (by first | exact Or.inl rfl | exact Or.inr (Or.inl rfl) | exact Or.inr (Or.inr rfl)))))).tm (bm_cons (pm_app (i := 4) rfl (by first | exact Or.inl rfl | exact Or.inr (Or.inl rfl) | exact Or.inr (Or.inr rfl)) (em_op od_mod (em_var 2 rfl (by first | exact Or.inl rfl | exact Or.inr (Or.inl rfl) | exact Or.inr (Or.inr rfl))) em_int))
    (bm_one (pm_set (i := 2) sc_law_draws.nd rfl (by first | exact Or.inl rfl | exact Or.inr rfl) (em_op od_div (em_var 2 rfl (by first | exact Or.inl rfl | exact Or.inr (Or.inl rfl) | exact Or.inr (Or.inr rfl))) em_int)))) (bm_one (pm_if (tm_cmp (od_lt (hU hr)) (em_var 5 rfl (by first | exact Or.inl rfl | exact Or.inr (Or.inl rfl) | exact Or.inr (Or.inr rfl))) (em_var 1 rfl (by first | exact Or.inl rfl | exact Or.inr (Or.inl rfl) | exact Or.inr (Or.inr rfl))) (by rfl)) (bm_cons (pm_set (i := 6) sc_law_draws.nd rfl (by first | exact Or.inl rfl | exact Or.inr rfl) (em_op od_mod (em_op od_add (em_op od_add (em_op od_mul (em_callTy cd_int (by rfl) T.n_int boot_int (am_cons (em_var 2 rfl (by first | exact Or.inl rfl | exact Or.inr (Or.inl rfl) | exact Or.inr (Or.inr rfl))) am_nil)) em_int) (em_op od_mul (em_var 5 rfl (by first | exact Or.inl rfl | exact Or.inr (Or.inl rfl) | exact Or.inr (Or.inr rfl))) em_int)) em_int) em_int))
    (bm_cons (pm_set (i := 6) sc_law_draws.nd rfl (by first | exact Or.inl rfl | exact Or.inr rfl) (em_op od_mod (em_op od_add (em_op od_add (em_op od_mul (em_callTy cd_int (by rfl) T.n_int boot_int (am_cons (em_var 6 rfl (by first | exact Or.inl rfl | exact Or.inr (Or.inl rfl) | exact Or.inr (Or.inr rfl))) am_nil)) (em_callTy cd_int (by rfl) T.n_int boot_int (am_cons (em_var 6 rfl (by first | exact Or.inl rfl | exact Or.inr (Or.inl rfl) | exact Or.inr (Or.inr rfl))) am_nil))) (em_op od_mul (em_var 5 rfl (by first | exact Or.inl rfl | exact Or.inr (Or.inl rfl) | exact Or.inr (Or.inr rfl))) em_int)) em_int) em_int))
    (bm_one (pm_app (i := 4) rfl (by first | exact Or.inl rfl | exact Or.inr (Or.inl rfl) | exact Or.inr (Or.inr rfl)) (em_op od_mod (em_callTy cd_int (by rfl) T.n_int boot_int (am_cons (em_var 6 rfl (by first | exact Or.inl rfl | exact Or.inr (Or.inl rfl) | exact Or.inr (Or.inr rfl))) am_nil)) em_int))))) bm_nil)))))
    (bm_one (pm_fz (i := 4) (pm_ret (em_var 4 rfl (by first | exact Or.inl rfl | exact Or.inr (Or.inl rfl) | exact Or.inr (Or.inr rfl))))))))))
theorem ok_law_next {f : Addr} {fd : FuncData} (D : TopD K mg "_law_next" s_law_next ["_law_stream_here", "_law_many"] f fd) (T : Tx K mg C_BadRange C_BadVersion C_ShelfError) : FnOk P w K mg base (L2.CX P w) 1 f fd ["_law_stream_here", "_law_many"] (spOf K mg 2 run_law_next) :=
  fn_ok (N := N_law_next) (fb := b_law_next) D.F sc_law_next fun cdv A outer s H E mu0 hr => (bm_cons (pm_set (i := 2) sc_law_next.nd rfl (by first | exact Or.inl rfl | exact Or.inr rfl) (em_ixA (em_var 0 rfl (by first | exact Or.inl rfl | exact Or.inr (Or.inl rfl) | exact Or.inr (Or.inr rfl))) em_int (fun _ _ => rfl)))
    (bm_cons (pm_set (i := 3) sc_law_next.nd rfl (by first | exact Or.inl rfl | exact Or.inr rfl) (em_ixA (em_var 0 rfl (by first | exact Or.inl rfl | exact Or.inr (Or.inl rfl) | exact Or.inr (Or.inr rfl))) em_int (fun _ _ => rfl)))
    (bm_cons (pm_set (i := 4) sc_law_next.nd rfl (by first | exact Or.inl rfl | exact Or.inr rfl) (em_op od_mod (em_callTy cd_int (by rfl) T.n_int boot_int (am_cons (em_ixA (em_var 2 rfl (by first | exact Or.inl rfl | exact Or.inr (Or.inl rfl) | exact Or.inr (Or.inr rfl))) (em_op od_mod (em_callTy cd_int (by rfl) T.n_int boot_int (am_cons (em_ixA (em_var 3 rfl (by first | exact Or.inl rfl | exact Or.inr (Or.inl rfl) | exact Or.inr (Or.inr rfl))) em_int (fun _ _ => rfl)) am_nil)) (em_callB cd_len (by rfl) T.n_len PySem.boot_len (am_cons (em_var 2 rfl (by first | exact Or.inl rfl | exact Or.inr (Or.inl rfl) | exact Or.inr (Or.inr rfl))) am_nil))) (fun _ _ => rfl)) am_nil)) (em_var 1 rfl (by first | exact Or.inl rfl | exact Or.inr (Or.inl rfl) | exact Or.inr (Or.inr rfl)))))
    (bm_cons (pm_sub (em_var 3 rfl (by first | exact Or.inl rfl | exact Or.inr (Or.inl rfl) | exact Or.inr (Or.inr rfl))) em_int (em_op od_add (em_ixA (em_var 3 rfl (by first | exact Or.inl rfl | exact Or.inr (Or.inl rfl) | exact Or.inr (Or.inr rfl))) em_int (fun _ _ => rfl)) em_int))
    (bm_one (pm_ret (em_var 4 rfl (by first | exact Or.inl rfl | exact Or.inr (Or.inl rfl) | exact Or.inr (Or.inr rfl)))))))))
theorem ok_law_is_integer {f : Addr} {fd : FuncData} (D : TopD K mg "_law_is_integer" s_law_is_integer ["_law_actual"] f fd) (T : Tx K mg C_BadRange C_BadVersion C_ShelfError) : FnOk P w K mg base (L2.CX P w) 1 f fd ["_law_actual"] (spOf K mg 1 run_law_is_integer) :=
  fn_ok (N := N_law_is_integer) (fb := b_law_is_integer) D.F sc_law_is_integer fun cdv A outer s H E mu0 hr => (bm_one (pm_ret (em_and (em_isi (em_var 0 rfl (by first | exact Or.inl rfl | exact Or.inr (Or.inl rfl) | exact Or.inr (Or.inr rfl))) (by decide) (by rfl) T.n_isinstance (by rfl) T.n_int boot_int) (em_one (em_not (em_isi (em_var 0 rfl (by first | exact Or.inl rfl | exact Or.inr (Or.inl rfl) | exact Or.inr (Or.inr rfl))) (by decide) (by rfl) T.n_isinstance (by rfl) T.n_bool boot_bool))))))
theorem ok_version_numbers {f : Addr} {fd : FuncData} (D : TopD K mg "version_numbers" s_version_numbers ["value"] f fd) (T : Tx K mg C_BadRange C_BadVersion C_ShelfError) {f_number_of : Addr} {fd_number_of : FuncData} (D_number_of : TopD K mg "number_of" s_number_of ["text"] f_number_of fd_number_of) (G_number_of : FnOk P w K mg base (L2.CX P w) 1 f_number_of fd_number_of ["text"] (spOf K mg 1 run_number_of)) : FnOk P w K mg base (L2.CX P w) 2 f fd ["value"] (spOf K mg 1 run_version_numbers) :=
  fn_ok (N := N_version_numbers) (fb := b_version_numbers) D.F sc_version_numbers fun cdv A outer s H E mu0 hr => (bm_cons (pm_if (tm_not (tm_tru (em_isi (em_var 0 rfl (by first | exact Or.inl rfl | exact Or.inr (Or.inl rfl) | exact Or.inr (Or.inr rfl))) (by decide) (by rfl) T.n_isinstance (by rfl) T.n_str boot_str))) (bm_one (pm_ret em_none)) bm_nil)
    (bm_cons (pm_set (i := 1) sc_version_numbers.nd rfl (by first | exact Or.inl rfl | exact Or.inr rfl) (em_split (em_var 0 rfl (by first | exact Or.inl rfl | exact Or.inr (Or.inl rfl) | exact Or.inr (Or.inr rfl))) em_str))
    (bm_cons (pm_if (tm_cmp (od_ne (hU hr)) (em_callB cd_len (by rfl) T.n_len PySem.boot_len (am_cons (em_var 1 rfl (by first | exact Or.inl rfl | exact Or.inr (Or.inl rfl) | exact Or.inr (Or.inr rfl))) am_nil)) em_int (by rfl)) (bm_one (pm_ret em_none)) bm_nil)
    (bm_cons (pm_set (i := 2) sc_version_numbers.nd rfl (by first | exact Or.inl rfl | exact Or.inr rfl) (em_callTy cd_tuple (by rfl) T.n_tuple boot_tuple (am_cons (em_fz (fm_lc (own := [("part", 3)]) (is := [3]) rfl sc_version_numbers.nd (im_seq (em_var 1 rfl (by first | exact Or.inl rfl | exact Or.inr (Or.inl rfl) | exact Or.inr (Or.inr rfl)))) (blkOk_by (own := [("part", 3)]) (N := N_version_numbers) (sc := defScope s_version_numbers) (by decide +kernel)) (fun _ _ _ _ _ => (gm_name sc_version_numbers.nd rfl (by first | exact Or.inl rfl | exact Or.inr rfl))) (fun _ _ _ _ _ => sm_nil) (fun _ _ _ _ _ => (em_callP G_number_of (hr.mono (by decide)) (by rfl) D_number_of.g D_number_of.F.kp D_number_of.b takes0 (am_cons (em_var 3 rfl (by first | exact Or.inl rfl | exact Or.inr (Or.inl rfl) | exact Or.inr (Or.inr rfl))) am_nil))) (by decide))) am_nil)))
    (bm_cons (pm_if (tm_cmp (od_in (hU hr)) em_none (em_var 2 rfl (by first | exact Or.inl rfl | exact Or.inr (Or.inl rfl) | exact Or.inr (Or.inr rfl))) (by rfl)) (bm_one (pm_ret em_none)) bm_nil)
    (bm_one (pm_ret (em_var 2 rfl (by first | exact Or.inl rfl | exact Or.inr (Or.inl rfl) | exact Or.inr (Or.inr rfl))))))))))
theorem ok_law_stream {f : Addr} {fd : FuncData} (D : TopD K mg "_law_stream" s_law_stream ["_law_script", "_law_first", "_law_count"] f fd) (T : Tx K mg C_BadRange C_BadVersion C_ShelfError) {f_law_draws : Addr} {fd_law_draws : FuncData} (D_law_draws : TopD K mg "_law_draws" s_law_draws ["_law_cell_here", "_law_count"] f_law_draws fd_law_draws) (G_law_draws : FnOk P w K mg base (L2.CX P w) 1 f_law_draws fd_law_draws ["_law_cell_here", "_law_count"] (spOf K mg 2 run_law_draws)) {f_law_cell : Addr} {fd_law_cell : FuncData} (D_law_cell : TopD K mg "_law_cell" s_law_cell ["_law_script", "_law_k"] f_law_cell fd_law_cell) (G_law_cell : FnOk P w K mg base (L2.CX P w) 1 f_law_cell fd_law_cell ["_law_script", "_law_k"] (spOf K mg 2 run_law_cell)) : FnOk P w K mg base (L2.CX P w) 2 f fd ["_law_script", "_law_first", "_law_count"] (spOf K mg 3 run_law_stream) :=
  fn_ok (N := N_law_stream) (fb := b_law_stream) D.F sc_law_stream fun cdv A outer s H E mu0 hr => (bm_cons (pm_own (i := 3) sc_law_stream.nd rfl (by first | exact Or.inl rfl | exact Or.inr rfl) (fm_lst am_nil))
    (bm_cons (pm_for (passes_of rfl) rfl (im_range1 (by rfl) T.n_range (am_cons (em_var 2 rfl (by first | exact Or.inl rfl | exact Or.inr (Or.inl rfl) | exact Or.inr (Or.inr rfl))) am_nil)) (gm_name sc_law_stream.nd rfl (by first | exact Or.inl rfl | exact Or.inr rfl)) (bm_one (pm_ext (i := 3) rfl (by first | exact Or.inl rfl | exact Or.inr (Or.inl rfl) | exact Or.inr (Or.inr rfl)) (em_callP G_law_draws (hr.mono (by decide)) (by rfl) D_law_draws.g D_law_draws.F.kp D_law_draws.b (takes_of rfl rfl rfl rfl) (am_cons (em_callP G_law_cell (hr.mono (by decide)) (by rfl) D_law_cell.g D_law_cell.F.kp D_law_cell.b (takes_of rfl rfl rfl rfl) (am_cons (em_var 0 rfl (by first | exact Or.inl rfl | exact Or.inr (Or.inl rfl) | exact Or.inr (Or.inr rfl))) (am_cons (em_op od_add (em_var 1 rfl (by first | exact Or.inl rfl | exact Or.inr (Or.inl rfl) | exact Or.inr (Or.inr rfl))) (em_var 4 rfl (by first | exact Or.inl rfl | exact Or.inr (Or.inl rfl) | exact Or.inr (Or.inr rfl)))) am_nil))) (am_cons em_int am_nil))))))
    (bm_one (pm_fz (i := 3) (pm_ret (em_lstH (am_cons (em_var 3 rfl (by first | exact Or.inl rfl | exact Or.inr (Or.inl rfl) | exact Or.inr (Or.inr rfl))) (am_cons (em_lstH (am_cons em_int am_nil)) am_nil))))))))
theorem ok1_law_same {self : RF} {k : Nat} {f : Addr} {fd : FuncData} (DS_ : TopD K mg "_law_same" s_law_same ["_law_actual", "_law_expected"] f fd) (T : Tx K mg C_BadRange C_BadVersion C_ShelfError) {f_law_is_integer : Addr} {fd_law_is_integer : FuncData} (D_law_is_integer : TopD K mg "_law_is_integer" s_law_is_integer ["_law_actual"] f_law_is_integer fd_law_is_integer) (G_law_is_integer : FnOk P w K mg base (L2.CX P w) 1 f_law_is_integer fd_law_is_integer ["_law_actual"] (spOf K mg 1 run_law_is_integer)) (hk : 2 ≤ k) (GS : FnOk P w K mg base (L2.CX P w) k f fd ["_law_actual", "_law_expected"] (spOf K mg 2 self)) : FnOk P w K mg base (L2.CX P w) (k + 1) f fd ["_law_actual", "_law_expected"] (spOf K mg 2 (runOf 3 (b_law_same self))) :=
  fn_ok (N := N_law_same) (fb := b_law_same self) DS_.F sc_law_same fun cdv A outer s H E mu0 hr => (bm_cons (pm_if (tm_cmp od_is (em_var 1 rfl (by first | exact Or.inl rfl | exact Or.inr (Or.inl rfl) | exact Or.inr (Or.inr rfl))) em_none (by rfl)) (bm_one (pm_ret (em_cmp od_is (em_var 0 rfl (by first | exact Or.inl rfl | exact Or.inr (Or.inl rfl) | exact Or.inr (Or.inr rfl))) em_none (by rfl)))) bm_nil)
    (bm_cons (pm_if (tm_tru (em_isi (em_var 1 rfl (by first | exact Or.inl rfl | exact Or.inr (Or.inl rfl) | exact Or.inr (Or.inr rfl))) (by decide) (by rfl) T.n_isinstance (by rfl) T.n_bool boot_bool)) (bm_one (pm_ret (em_and (em_isi (em_var 0 rfl (by first | exact Or.inl rfl | exact Or.inr (Or.inl rfl) | exact Or.inr (Or.inr rfl))) (by decide) (by rfl) T.n_isinstance (by rfl) T.n_bool boot_bool) (em_one (em_cmp (od_eq (hU hr)) (em_var 0 rfl (by first | exact Or.inl rfl | exact Or.inr (Or.inl rfl) | exact Or.inr (Or.inr rfl))) (em_var 1 rfl (by first | exact Or.inl rfl | exact Or.inr (Or.inl rfl) | exact Or.inr (Or.inr rfl))) (by rfl)))))) bm_nil)
    (bm_cons (pm_if (tm_tru (em_isi (em_var 1 rfl (by first | exact Or.inl rfl | exact Or.inr (Or.inl rfl) | exact Or.inr (Or.inr rfl))) (by decide) (by rfl) T.n_isinstance (by rfl) T.n_int boot_int)) (bm_one (pm_ret (em_and (em_callP G_law_is_integer (hr.mono (by omega)) (by rfl) D_law_is_integer.g D_law_is_integer.F.kp D_law_is_integer.b (takes_of rfl rfl rfl rfl) (am_cons (em_var 0 rfl (by first | exact Or.inl rfl | exact Or.inr (Or.inl rfl) | exact Or.inr (Or.inr rfl))) am_nil)) (em_one (em_cmp (od_eq (hU hr)) (em_var 0 rfl (by first | exact Or.inl rfl | exact Or.inr (Or.inl rfl) | exact Or.inr (Or.inr rfl))) (em_var 1 rfl (by first | exact Or.inl rfl | exact Or.inr (Or.inl rfl) | exact Or.inr (Or.inr rfl))) (by rfl)))))) bm_nil)
    (bm_cons (pm_if (tm_tru (em_isi (em_var 1 rfl (by first | exact Or.inl rfl | exact Or.inr (Or.inl rfl) | exact Or.inr (Or.inr rfl))) (by decide) (by rfl) T.n_isinstance (by rfl) T.n_str boot_str)) (bm_one (pm_ret (em_and (em_isi (em_var 0 rfl (by first | exact Or.inl rfl | exact Or.inr (Or.inl rfl) | exact Or.inr (Or.inr rfl))) (by decide) (by rfl) T.n_isinstance (by rfl) T.n_str boot_str) (em_one (em_cmp (od_eq (hU hr)) (em_var 0 rfl (by first | exact Or.inl rfl | exact Or.inr (Or.inl rfl) | exact Or.inr (Or.inr rfl))) (em_var 1 rfl (by first | exact Or.inl rfl | exact Or.inr (Or.inl rfl) | exact Or.inr (Or.inr rfl))) (by rfl)))))) bm_nil)
    (bm_cons (pm_if (wm_and (tm_tru (em_isi (em_var 1 rfl (by first | exact Or.inl rfl | exact Or.inr (Or.inl rfl) | exact Or.inr (Or.inr rfl))) (by decide) (by rfl) T.n_isinstance (by rfl) T.n_tuple boot_tuple)) (wm_and1 (tm_not (tm_tru (em_isi (em_var 0 rfl (by first | exact Or.inl rfl | exact Or.inr (Or.inl rfl) | exact Or.inr (Or.inr rfl))) (by decide) (by rfl) T.n_isinstance (by rfl) T.n_tuple boot_tuple))))).tm (bm_one (pm_ret em_bool)) bm_nil)
    (bm_cons (pm_if (wm_and (tm_tru (em_isi (em_var 1 rfl (by first | exact Or.inl rfl | exact Or.inr (Or.inl rfl) | exact Or.inr (Or.inr rfl))) (by decide) (by rfl) T.n_isinstance (by rfl) T.n_list boot_list)) (wm_and1 (tm_not (tm_tru (em_isi (em_var 0 rfl (by first | exact Or.inl rfl | exact Or.inr (Or.inl rfl) | exact Or.inr (Or.inr rfl))) (by decide) (by rfl) T.n_isinstance (by rfl) T.n_list boot_list))))).tm (bm_one (pm_ret em_bool)) bm_nil)
    (bm_cons (pm_if (tm_cmp (od_ne (hU hr)) (em_callB cd_len (by rfl) T.n_len PySem.boot_len (am_cons (em_var 0 rfl (by first | exact Or.inl rfl | exact Or.inr (Or.inl rfl) | exact Or.inr (Or.inr rfl))) am_nil)) (em_callB cd_len (by rfl) T.n_len PySem.boot_len (am_cons (em_var 1 rfl (by first | exact Or.inl rfl | exact Or.inr (Or.inl rfl) | exact Or.inr (Or.inr rfl))) am_nil)) (by rfl)) (bm_one (pm_ret em_bool)) bm_nil)
    (bm_cons (pm_for (passes_of rfl) rfl (im_range1 (by rfl) T.n_range (am_cons (em_callB cd_len (by rfl) T.n_len PySem.boot_len (am_cons (em_var 1 rfl (by first | exact Or.inl rfl | exact Or.inr (Or.inl rfl) | exact Or.inr (Or.inr rfl))) am_nil)) am_nil)) (gm_name sc_law_same.nd rfl (by first | exact Or.inl rfl | exact Or.inr rfl)) (bm_one (pm_if (tm_not (tm_tru (em_callP GS (hr.mono (by omega)) (by rfl) DS_.g DS_.F.kp DS_.b (takes_of rfl rfl rfl rfl) (am_cons (em_ixA (em_var 0 rfl (by first | exact Or.inl rfl | exact Or.inr (Or.inl rfl) | exact Or.inr (Or.inr rfl))) (em_var 2 rfl (by first | exact Or.inl rfl | exact Or.inr (Or.inl rfl) | exact Or.inr (Or.inr rfl))) (fun _ _ => rfl)) (am_cons (em_ixA (em_var 1 rfl (by first | exact Or.inl rfl | exact Or.inr (Or.inl rfl) | exact Or.inr (Or.inr rfl))) (em_var 2 rfl (by first | exact Or.inl rfl | exact Or.inr (Or.inl rfl) | exact Or.inr (Or.inr rfl))) (fun _ _ => rfl)) am_nil))))) (bm_one (pm_ret em_bool)) bm_nil)))
    (bm_one (pm_ret em_bool))))))))))
theorem ok0_law_same {f : Addr} {fd : FuncData} : FnOk P w K mg base (L2.CX P w) 2 f fd ["_law_actual", "_law_expected"] (spOf K mg 2 (run_law_same 0)) := ⟨fun vs H Q E h => h.1, fun _ _ _ _ _ _ _ _ _ _ _ _ _ h => by obtain ⟨_, _, _, _, _, _, _, q⟩ := h; exact q.elim⟩
theorem ok_law_same {f : Addr} {fd : FuncData} (D : TopD K mg "_law_same" s_law_same ["_law_actual", "_law_expected"] f fd) (T : Tx K mg C_BadRange C_BadVersion C_ShelfError) {f_law_is_integer : Addr} {fd_law_is_integer : FuncData} (D_law_is_integer : TopD K mg "_law_is_integer" s_law_is_integer ["_law_actual"] f_law_is_integer fd_law_is_integer) (G_law_is_integer : FnOk P w K mg base (L2.CX P w) 1 f_law_is_integer fd_law_is_integer ["_law_actual"] (spOf K mg 1 run_law_is_integer)) : ∀ n, FnOk P w K mg base (L2.CX P w) (2 + n) f fd ["_law_actual", "_law_expected"] (spOf K mg 2 (run_law_same n))
  | 0 => ok0_law_same
  | n + 1 => ok1_law_same D T D_law_is_integer G_law_is_integer (Nat.le_add_right _ _) (ok_law_same D T D_law_is_integer G_law_is_integer n)
theorem ok_law_version {f : Addr} {fd : FuncData} (D : TopD K mg "_law_version" s_law_version ["_law_stream_here"] f fd) (T : Tx K mg C_BadRange C_BadVersion C_ShelfError) {f_law_next : Addr} {fd_law_next : FuncData} (D_law_next : TopD K mg "_law_next" s_law_next ["_law_stream_here", "_law_many"] f_law_next fd_law_next) (G_law_next : FnOk P w K mg base (L2.CX P w) 1 f_law_next fd_law_next ["_law_stream_here", "_law_many"] (spOf K mg 2 run_law_next)) : FnOk P w K mg base (L2.CX P w) 2 f fd ["_law_stream_here"] (spOf K mg 1 run_law_version) :=
  fn_ok (N := N_law_version) (fb := b_law_version) D.F sc_law_version fun cdv A outer s H E mu0 hr => (bm_one (pm_ret (em_ixA (em_lst (am_cons em_str (am_cons em_str (am_cons em_str (am_cons em_str (am_cons em_str (am_cons em_str am_nil))))))) (em_call G_law_next (hr.mono (by decide)) (by rfl) D_law_next.g D_law_next.F.kp D_law_next.b (takes_of rfl rfl rfl rfl) (am_cons (em_var 0 rfl (by first | exact Or.inl rfl | exact Or.inr (Or.inl rfl) | exact Or.inr (Or.inr rfl))) (am_cons em_int am_nil))) (fun _ _ => rfl))))
theorem ok_span_between {f : Addr} {fd : FuncData} (D : TopD K mg "span_between" s_span_between ["text"] f fd) (T : Tx K mg C_BadRange C_BadVersion C_ShelfError) {f_version_numbers : Addr} {fd_version_numbers : FuncData} (D_version_numbers : TopD K mg "version_numbers" s_version_numbers ["value"] f_version_numbers fd_version_numbers) (G_version_numbers : FnOk P w K mg base (L2.CX P w) 2 f_version_numbers fd_version_numbers ["value"] (spOf K mg 1 run_version_numbers)) : FnOk P w K mg base (L2.CX P w) 3 f fd ["text"] (spOf K mg 1 run_span_between) :=
  fn_ok (N := N_span_between) (fb := b_span_between) D.F sc_span_between fun cdv A outer s H E mu0 hr => (bm_cons (pm_set (i := 1) sc_span_between.nd rfl (by first | exact Or.inl rfl | exact Or.inr rfl) (em_split (em_sl (em_var 0 rfl (by first | exact Or.inl rfl | exact Or.inr (Or.inl rfl) | exact Or.inr (Or.inr rfl))) (om_some em_int) om_none) em_str))
    (bm_cons (pm_if (tm_cmp (od_ne (hU hr)) (em_callB cd_len (by rfl) T.n_len PySem.boot_len (am_cons (em_var 1 rfl (by first | exact Or.inl rfl | exact Or.inr (Or.inl rfl) | exact Or.inr (Or.inr rfl))) am_nil)) em_int (by rfl)) (bm_one (pm_ret em_none)) bm_nil)
    (bm_cons (pm_par (i := 2) (j := 3) rfl sc_span_between.nd rfl rfl (by decide) rfl rfl (am_cons (em_callP G_version_numbers (hr.mono (by decide)) (by rfl) D_version_numbers.g D_version_numbers.F.kp D_version_numbers.b (takes_of rfl rfl rfl rfl) (am_cons (em_ixA (em_var 1 rfl (by first | exact Or.inl rfl | exact Or.inr (Or.inl rfl) | exact Or.inr (Or.inr rfl))) em_int (fun _ _ => rfl)) am_nil)) (am_cons (em_callP G_version_numbers (hr.mono (by decide)) (by rfl) D_version_numbers.g D_version_numbers.F.kp D_version_numbers.b (takes_of rfl rfl rfl rfl) (am_cons (em_ixA (em_var 1 rfl (by first | exact Or.inl rfl | exact Or.inr (Or.inl rfl) | exact Or.inr (Or.inr rfl))) em_int (fun _ _ => rfl)) am_nil)) am_nil)))
    (bm_cons (pm_if (wm_or (tm_cmp od_is (em_var 2 rfl (by first | exact Or.inl rfl | exact Or.inr (Or.inl rfl) | exact Or.inr (Or.inr rfl))) em_none (by rfl)) (wm_or (tm_cmp od_is (em_var 3 rfl (by first | exact Or.inl rfl | exact Or.inr (Or.inl rfl) | exact Or.inr (Or.inr rfl))) em_none (by rfl)) (wm_or1 (tm_not (tm_cmp (od_lt (hU hr)) (em_var 2 rfl (by first | exact Or.inl rfl | exact Or.inr (Or.inl rfl) | exact Or.inr (Or.inr rfl))) (em_var 3 rfl (by first | exact Or.inl rfl | exact Or.inr (Or.inl rfl) | exact Or.inr (Or.inr rfl))) (by rfl)))))).tm (bm_one (pm_ret em_none)) bm_nil)
    (bm_one (pm_ret (em_tup (am_cons (em_var 2 rfl (by first | exact Or.inl rfl | exact Or.inr (Or.inl rfl) | exact Or.inr (Or.inr rfl))) (am_cons (em_var 3 rfl (by first | exact Or.inl rfl | exact Or.inr (Or.inl rfl) | exact Or.inr (Or.inr rfl))) am_nil)))))))))
theorem ok_law_alternative {f : Addr} {fd : FuncData} (D : TopD K mg "_law_alternative" s_law_alternative ["_law_stream_here"] f fd) (T : Tx K mg C_BadRange C_BadVersion C_ShelfError) {f_law_next : Addr} {fd_law_next : FuncData} (D_law_next : TopD K mg "_law_next" s_law_next ["_law_stream_here", "_law_many"] f_law_next fd_law_next) (G_law_next : FnOk P w K mg base (L2.CX P w) 1 f_law_next fd_law_next ["_law_stream_here", "_law_many"] (spOf K mg 2 run_law_next)) {f_law_version : Addr} {fd_law_version : FuncData} (D_law_version : TopD K mg "_law_version" s_law_version ["_law_stream_here"] f_law_version fd_law_version) (G_law_version : FnOk P w K mg base (L2.CX P w) 2 f_law_version fd_law_version ["_law_stream_here"] (spOf K mg 1 run_law_version)) : FnOk P w K mg base (L2.CX P w) 3 f fd ["_law_stream_here"] (spOf K mg 1 run_law_alternative) :=
  fn_ok (N := N_law_alternative) (fb := b_law_alternative) D.F sc_law_alternative fun cdv A outer s H E mu0 hr => (bm_cons (pm_set (i := 1) sc_law_alternative.nd rfl (by first | exact Or.inl rfl | exact Or.inr rfl) (em_call G_law_next (hr.mono (by decide)) (by rfl) D_law_next.g D_law_next.F.kp D_law_next.b (takes_of rfl rfl rfl rfl) (am_cons (em_var 0 rfl (by first | exact Or.inl rfl | exact Or.inr (Or.inl rfl) | exact Or.inr (Or.inr rfl))) (am_cons em_int am_nil))))
    (bm_cons (pm_if (tm_cmp (od_le (hU hr)) (em_var 1 rfl (by first | exact Or.inl rfl | exact Or.inr (Or.inl rfl) | exact Or.inr (Or.inr rfl))) em_int (by rfl)) (bm_one (pm_ret em_str)) bm_nil)
    (bm_cons (pm_if (tm_cmp (od_le (hU hr)) (em_var 1 rfl (by first | exact Or.inl rfl | exact Or.inr (Or.inl rfl) | exact Or.inr (Or.inr rfl))) em_int (by rfl)) (bm_one (pm_ret (em_op od_add em_str (em_call G_law_version (hr.mono (by decide)) (by rfl) D_law_version.g D_law_version.F.kp D_law_version.b (takes_of rfl rfl rfl rfl) (am_cons (em_var 0 rfl (by first | exact Or.inl rfl | exact Or.inr (Or.inl rfl) | exact Or.inr (Or.inr rfl))) am_nil))))) bm_nil)
    (bm_cons (pm_if (tm_cmp (od_eq (hU hr)) (em_var 1 rfl (by first | exact Or.inl rfl | exact Or.inr (Or.inl rfl) | exact Or.inr (Or.inr rfl))) em_int (by rfl)) (bm_one (pm_ret (em_op od_add (em_ixA (em_lst (am_cons em_str (am_cons em_str am_nil))) (em_call G_law_next (hr.mono (by decide)) (by rfl) D_law_next.g D_law_next.F.kp D_law_next.b (takes_of rfl rfl rfl rfl) (am_cons (em_var 0 rfl (by first | exact Or.inl rfl | exact Or.inr (Or.inl rfl) | exact Or.inr (Or.inr rfl))) (am_cons em_int am_nil))) (fun _ _ => rfl)) (em_call G_law_version (hr.mono (by decide)) (by rfl) D_law_version.g D_law_version.F.kp D_law_version.b (takes_of rfl rfl rfl rfl) (am_cons (em_var 0 rfl (by first | exact Or.inl rfl | exact Or.inr (Or.inl rfl) | exact Or.inr (Or.inr rfl))) am_nil))))) bm_nil)
    (bm_one (pm_ret (em_ixA (em_lst (am_cons em_str (am_cons em_str (am_cons em_str am_nil)))) (em_call G_law_next (hr.mono (by decide)) (by rfl) D_law_next.g D_law_next.F.kp D_law_next.b (takes_of rfl rfl rfl rfl) (am_cons (em_var 0 rfl (by first | exact Or.inl rfl | exact Or.inr (Or.inl rfl) | exact Or.inr (Or.inr rfl))) (am_cons em_int am_nil))) (fun _ _ => rfl))))))))
theorem ok_span_of {f : Addr} {fd : FuncData} (D : TopD K mg "span_of" s_span_of ["text"] f fd) (T : Tx K mg C_BadRange C_BadVersion C_ShelfError) {f_span_between : Addr} {fd_span_between : FuncData} (D_span_between : TopD K mg "span_between" s_span_between ["text"] f_span_between fd_span_between) (G_span_between : FnOk P w K mg base (L2.CX P w) 3 f_span_between fd_span_between ["text"] (spOf K mg 1 run_span_between)) {f_version_numbers : Addr} {fd_version_numbers : FuncData} (D_version_numbers : TopD K mg "version_numbers" s_version_numbers ["value"] f_version_numbers fd_version_numbers) (G_version_numbers : FnOk P w K mg base (L2.CX P w) 2 f_version_numbers fd_version_numbers ["value"] (spOf K mg 1 run_version_numbers)) {f_next_major : Addr} {fd_next_major : FuncData} (D_next_major : TopD K mg "next_major" s_next_major ["numbers"] f_next_major fd_next_major) (G_next_major : FnOk P w K mg base (L2.CX P w) 1 f_next_major fd_next_major ["numbers"] (spOf K mg 1 run_next_major)) : FnOk P w K mg base (L2.CX P w) 4 f fd ["text"] (spOf K mg 1 run_span_of) :=
  fn_ok (N := N_span_of) (fb := b_span_of) D.F sc_span_of fun cdv A outer s H E mu0 hr => (bm_cons (pm_if (tm_cmp (od_eq (hU hr)) (em_var 0 rfl (by first | exact Or.inl rfl | exact Or.inr (Or.inl rfl) | exact Or.inr (Or.inr rfl))) em_str (by rfl)) (bm_one (pm_ret (em_tup (am_cons (em_tup (am_cons em_int (am_cons em_int (am_cons em_int am_nil)))) (am_cons em_none am_nil))))) bm_nil)
    (bm_cons (pm_if (tm_tru (em_starts (em_var 0 rfl (by first | exact Or.inl rfl | exact Or.inr (Or.inl rfl) | exact Or.inr (Or.inr rfl))) em_str)) (bm_one (pm_ret (em_callP G_span_between (hr.mono (by decide)) (by rfl) D_span_between.g D_span_between.F.kp D_span_between.b (takes_of rfl rfl rfl rfl) (am_cons (em_var 0 rfl (by first | exact Or.inl rfl | exact Or.inr (Or.inl rfl) | exact Or.inr (Or.inr rfl))) am_nil)))) bm_nil)
    (bm_cons (pm_set (i := 1) sc_span_of.nd rfl (by first | exact Or.inl rfl | exact Or.inr rfl) (em_callP G_version_numbers (hr.mono (by decide)) (by rfl) D_version_numbers.g D_version_numbers.F.kp D_version_numbers.b (takes_of rfl rfl rfl rfl) (am_cons (em_if (tm_cmp (od_in (hU hr)) (em_sl (em_var 0 rfl (by first | exact Or.inl rfl | exact Or.inr (Or.inl rfl) | exact Or.inr (Or.inr rfl))) om_none (om_some em_int)) (em_tup (am_cons em_str (am_cons em_str am_nil))) (by rfl)) (em_sl (em_var 0 rfl (by first | exact Or.inl rfl | exact Or.inr (Or.inl rfl) | exact Or.inr (Or.inr rfl))) (om_some em_int) om_none) (em_var 0 rfl (by first | exact Or.inl rfl | exact Or.inr (Or.inl rfl) | exact Or.inr (Or.inr rfl)))) am_nil)))
    (bm_cons (pm_if (tm_cmp od_is (em_var 1 rfl (by first | exact Or.inl rfl | exact Or.inr (Or.inl rfl) | exact Or.inr (Or.inr rfl))) em_none (by rfl)) (bm_one (pm_ret em_none)) bm_nil)
    (bm_cons (pm_if (tm_cmp (od_eq (hU hr)) (em_ixA (em_var 0 rfl (by first | exact Or.inl rfl | exact Or.inr (Or.inl rfl) | exact Or.inr (Or.inr rfl))) em_int (fun _ _ => rfl)) em_str (by rfl)) (bm_one (pm_ret (em_tup (am_cons (em_var 1 rfl (by first | exact Or.inl rfl | exact Or.inr (Or.inl rfl) | exact Or.inr (Or.inr rfl))) (am_cons (em_callP G_next_major (hr.mono (by decide)) (by rfl) D_next_major.g D_next_major.F.kp D_next_major.b (takes_of rfl rfl rfl rfl) (am_cons (em_var 1 rfl (by first | exact Or.inl rfl | exact Or.inr (Or.inl rfl) | exact Or.inr (Or.inr rfl))) am_nil)) am_nil))))) bm_nil)
    (bm_cons (pm_if (tm_cmp (od_eq (hU hr)) (em_ixA (em_var 0 rfl (by first | exact Or.inl rfl | exact Or.inr (Or.inl rfl) | exact Or.inr (Or.inr rfl))) em_int (fun _ _ => rfl)) em_str (by rfl)) (bm_one (pm_ret (em_tup (am_cons (em_var 1 rfl (by first | exact Or.inl rfl | exact Or.inr (Or.inl rfl) | exact Or.inr (Or.inr rfl))) (am_cons (em_tup (am_cons (em_ixA (em_var 1 rfl (by first | exact Or.inl rfl | exact Or.inr (Or.inl rfl) | exact Or.inr (Or.inr rfl))) em_int (fun _ _ => rfl)) (am_cons (em_op od_add (em_ixA (em_var 1 rfl (by first | exact Or.inl rfl | exact Or.inr (Or.inl rfl) | exact Or.inr (Or.inr rfl))) em_int (fun _ _ => rfl)) em_int) (am_cons em_int am_nil)))) am_nil))))) bm_nil)
    (bm_one (pm_ret (em_tup (am_cons (em_var 1 rfl (by first | exact Or.inl rfl | exact Or.inr (Or.inl rfl) | exact Or.inr (Or.inr rfl))) (am_cons (em_tup (am_cons (em_ixA (em_var 1 rfl (by first | exact Or.inl rfl | exact Or.inr (Or.inl rfl) | exact Or.inr (Or.inr rfl))) em_int (fun _ _ => rfl)) (am_cons (em_ixA (em_var 1 rfl (by first | exact Or.inl rfl | exact Or.inr (Or.inl rfl) | exact Or.inr (Or.inr rfl))) em_int (fun _ _ => rfl)) (am_cons (em_op od_add (em_ixA (em_var 1 rfl (by first | exact Or.inl rfl | exact Or.inr (Or.inl rfl) | exact Or.inr (Or.inr rfl))) em_int (fun _ _ => rfl)) em_int) am_nil)))) am_nil)))))))))))
theorem ok_spans_of {f : Addr} {fd : FuncData} (D : TopD K mg "spans_of" s_spans_of ["value"] f fd) (T : Tx K mg C_BadRange C_BadVersion C_ShelfError) {f_span_of : Addr} {fd_span_of : FuncData} (D_span_of : TopD K mg "span_of" s_span_of ["text"] f_span_of fd_span_of) (G_span_of : FnOk P w K mg base (L2.CX P w) 4 f_span_of fd_span_of ["text"] (spOf K mg 1 run_span_of)) : FnOk P w K mg base (L2.CX P w) 5 f fd ["value"] (spOf K mg 1 run_spans_of) :=
  fn_ok (N := N_spans_of) (fb := b_spans_of) D.F sc_spans_of fun cdv A outer s H E mu0 hr => (bm_cons (pm_if (tm_not (tm_tru (em_isi (em_var 0 rfl (by first | exact Or.inl rfl | exact Or.inr (Or.inl rfl) | exact Or.inr (Or.inr rfl))) (by decide) (by rfl) T.n_isinstance (by rfl) T.n_str boot_str))) (bm_one (pm_ret em_none)) bm_nil)
    (bm_cons (pm_set (i := 1) sc_spans_of.nd rfl (by first | exact Or.inl rfl | exact Or.inr rfl) (em_split (em_var 0 rfl (by first | exact Or.inl rfl | exact Or.inr (Or.inl rfl) | exact Or.inr (Or.inr rfl))) em_str))
    (bm_cons (pm_ownLc (i := 2) (own := [("part", 3)]) (is := [3]) rfl sc_spans_of.nd rfl rfl (sw_true rfl rfl rfl (by decide +kernel)) (im_seq (em_var 1 rfl (by first | exact Or.inl rfl | exact Or.inr (Or.inl rfl) | exact Or.inr (Or.inr rfl)))) (blkOk_by (own := [("part", 3)]) (N := N_spans_of) (sc := defScope s_spans_of) (by decide +kernel)) (fun _ _ _ _ _ => (gm_name sc_spans_of.nd rfl (by first | exact Or.inl rfl | exact Or.inr rfl))) (fun _ _ _ _ _ => sm_nil) (fun _ _ _ _ _ => (em_callP G_span_of (hr.mono (by decide)) (by rfl) D_span_of.g D_span_of.F.kp D_span_of.b takes0 (am_cons (em_var 3 rfl (by first | exact Or.inl rfl | exact Or.inr (Or.inl rfl) | exact Or.inr (Or.inr rfl))) am_nil))) (by decide))
    (bm_cons (pm_fz (i := 2) (pm_if (wm_or (tm_cmp (od_gt (hU hr)) (em_callB cd_len (by rfl) T.n_len PySem.boot_len (am_cons (em_var 1 rfl (by first | exact Or.inl rfl | exact Or.inr (Or.inl rfl) | exact Or.inr (Or.inr rfl))) am_nil)) (em_gint (by rfl) T.g_MOST_ALTERNATIVES.choose_spec) (by rfl)) (wm_or1 (tm_cmp (od_in (hU hr)) em_none (em_var 2 rfl (by first | exact Or.inl rfl | exact Or.inr (Or.inl rfl) | exact Or.inr (Or.inr rfl))) (by rfl)))).tm (bm_one (pm_ret em_none)) bm_nil))
    (bm_one (pm_ret (em_var 2 rfl (by first | exact Or.inl rfl | exact Or.inr (Or.inl rfl) | exact Or.inr (Or.inr rfl)))))))))
theorem ok_is_range {f : Addr} {fd : FuncData} (D : TopD K mg "is_range" s_is_range ["value"] f fd) (T : Tx K mg C_BadRange C_BadVersion C_ShelfError) {f_spans_of : Addr} {fd_spans_of : FuncData} (D_spans_of : TopD K mg "spans_of" s_spans_of ["value"] f_spans_of fd_spans_of) (G_spans_of : FnOk P w K mg base (L2.CX P w) 5 f_spans_of fd_spans_of ["value"] (spOf K mg 1 run_spans_of)) : FnOk P w K mg base (L2.CX P w) 6 f fd ["value"] (spOf K mg 1 run_is_range) :=
  fn_ok (N := N_is_range) (fb := b_is_range) D.F sc_is_range fun cdv A outer s H E mu0 hr => (bm_one (pm_ret (em_cmp od_isNot (em_callP G_spans_of (hr.mono (by decide)) (by rfl) D_spans_of.g D_spans_of.F.kp D_spans_of.b (takes_of rfl rfl rfl rfl) (am_cons (em_var 0 rfl (by first | exact Or.inl rfl | exact Or.inr (Or.inl rfl) | exact Or.inr (Or.inr rfl))) am_nil)) em_none (by rfl))))
theorem ok_satisfies {f : Addr} {fd : FuncData} (D : TopD K mg "satisfies" s_satisfies ["version", "wanted"] f fd) (T : Tx K mg C_BadRange C_BadVersion C_ShelfError) {f_version_numbers : Addr} {fd_version_numbers : FuncData} (D_version_numbers : TopD K mg "version_numbers" s_version_numbers ["value"] f_version_numbers fd_version_numbers) (G_version_numbers : FnOk P w K mg base (L2.CX P w) 2 f_version_numbers fd_version_numbers ["value"] (spOf K mg 1 run_version_numbers)) {f_spans_of : Addr} {fd_spans_of : FuncData} (D_spans_of : TopD K mg "spans_of" s_spans_of ["value"] f_spans_of fd_spans_of) (G_spans_of : FnOk P w K mg base (L2.CX P w) 5 f_spans_of fd_spans_of ["value"] (spOf K mg 1 run_spans_of)) {f_is_within : Addr} {fd_is_within : FuncData} (D_is_within : TopD K mg "is_within" s_is_within ["numbers", "span"] f_is_within fd_is_within) (G_is_within : FnOk P w K mg base (L2.CX P w) 1 f_is_within fd_is_within ["numbers", "span"] (spOf K mg 2 run_is_within)) : FnOk P w K mg base (L2.CX P w) 6 f fd ["version", "wanted"] (spOf K mg 2 run_satisfies) :=
  fn_ok (N := N_satisfies) (fb := b_satisfies) D.F sc_satisfies fun cdv A outer s H E mu0 hr => (bm_cons (pm_set (i := 2) sc_satisfies.nd rfl (by first | exact Or.inl rfl | exact Or.inr rfl) (em_callP G_version_numbers (hr.mono (by decide)) (by rfl) D_version_numbers.g D_version_numbers.F.kp D_version_numbers.b (takes_of rfl rfl rfl rfl) (am_cons (em_var 0 rfl (by first | exact Or.inl rfl | exact Or.inr (Or.inl rfl) | exact Or.inr (Or.inr rfl))) am_nil)))
    (bm_cons (pm_if (tm_cmp od_is (em_var 2 rfl (by first | exact Or.inl rfl | exact Or.inr (Or.inl rfl) | exact Or.inr (Or.inr rfl))) em_none (by rfl)) (bm_one (pm_raise rfl (takes_of rfl rfl rfl rfl) PySem.F.excBase_ValueError T.x_BadVersion.x T.x_BadVersion.g T.x_BadVersion.k (raises_own T.x_BadVersion.b T.x_BadVersion.t) (by rfl))) bm_nil)
    (bm_cons (pm_set (i := 3) sc_satisfies.nd rfl (by first | exact Or.inl rfl | exact Or.inr rfl) (em_callP G_spans_of (hr.mono (by decide)) (by rfl) D_spans_of.g D_spans_of.F.kp D_spans_of.b (takes_of rfl rfl rfl rfl) (am_cons (em_var 1 rfl (by first | exact Or.inl rfl | exact Or.inr (Or.inl rfl) | exact Or.inr (Or.inr rfl))) am_nil)))
    (bm_cons (pm_if (tm_cmp od_is (em_var 3 rfl (by first | exact Or.inl rfl | exact Or.inr (Or.inl rfl) | exact Or.inr (Or.inr rfl))) em_none (by rfl)) (bm_one (pm_raise rfl (takes_of rfl rfl rfl rfl) PySem.F.excBase_ValueError T.x_BadRange.x T.x_BadRange.g T.x_BadRange.k (raises_own T.x_BadRange.b T.x_BadRange.t) (by rfl))) bm_nil)
    (bm_one (pm_ret (em_callB (cd_any rfl) (by rfl) T.n_any boot_any (am_cons (em_fz (fm_lc (own := [("span", 4)]) (is := [4]) rfl sc_satisfies.nd (im_seq (em_var 3 rfl (by first | exact Or.inl rfl | exact Or.inr (Or.inl rfl) | exact Or.inr (Or.inr rfl)))) (blkOk_by (own := [("span", 4)]) (N := N_satisfies) (sc := defScope s_satisfies) (by decide +kernel)) (fun _ _ _ _ _ => (gm_name sc_satisfies.nd rfl (by first | exact Or.inl rfl | exact Or.inr rfl))) (fun _ _ _ _ _ => sm_nil) (fun _ _ _ _ _ => (em_callP G_is_within (hr.mono (by decide)) (by rfl) D_is_within.g D_is_within.F.kp D_is_within.b takes0 (am_cons (em_var 2 rfl (by first | exact Or.inl rfl | exact Or.inr (Or.inl rfl) | exact Or.inr (Or.inr rfl))) (am_cons (em_var 4 rfl (by first | exact Or.inl rfl | exact Or.inr (Or.inl rfl) | exact Or.inr (Or.inr rfl))) am_nil)))) (by decide))) am_nil))))))))
theorem ok_law_kind {f : Addr} {fd : FuncData} (D : TopD K mg "_law_kind" s_law_kind ["_law_version_here", "_law_wanted"] f fd) (T : Tx K mg C_BadRange C_BadVersion C_ShelfError) {f_satisfies : Addr} {fd_satisfies : FuncData} (D_satisfies : TopD K mg "satisfies" s_satisfies ["version", "wanted"] f_satisfies fd_satisfies) (G_satisfies : FnOk P w K mg base (L2.CX P w) 6 f_satisfies fd_satisfies ["version", "wanted"] (spOf K mg 2 run_satisfies)) : FnOk P w K mg base (L2.CX P w) 7 f fd ["_law_version_here", "_law_wanted"] (spOf K mg 2 run_law_kind) :=
  fn_ok (N := N_law_kind) (fb := b_law_kind) D.F sc_law_kind fun cdv A outer s H E mu0 hr => (bm_cons (pm_try sc_law_kind.nd rfl rfl (takes_of rfl rfl rfl rfl) (fun _ _ _ tk1 po1 => (bm_one (pm_expr (em_callP G_satisfies (hr.mono (by decide)) (by rfl) D_satisfies.g D_satisfies.F.kp D_satisfies.b tk1 (am_cons (em_var 0 rfl (by first | exact Or.inl rfl | exact Or.inr (Or.inl rfl) | exact Or.inr (Or.inr rfl))) (am_cons (em_var 1 rfl (by first | exact Or.inl rfl | exact Or.inr (Or.inl rfl) | exact Or.inr (Or.inr rfl))) am_nil)))))) (.named (i := 2) ⟨rfl, by decide, .inl T.e_BadVersion.g⟩ (sub_of T.rows T.e_BadVersion.g) rfl rfl (fun _ _ _ _ => (bm_one (pm_ret (em_ixA (em_lst (am_cons em_str (am_cons em_str am_nil))) (em_callTy cd_int (by rfl) T.n_int boot_int (am_cons (em_and (em_isEC T.rows T.e_ShelfError.g rfl (by first | exact Or.inl rfl | exact Or.inr (Or.inl rfl) | exact Or.inr (Or.inr rfl)) (by rfl) (by rfl) T.n_isinstance) (em_one (em_isET T.rows T.n_ValueError boot_ValueError rfl (by first | exact Or.inl rfl | exact Or.inr (Or.inl rfl) | exact Or.inr (Or.inr rfl)) (by rfl) (by rfl) T.n_isinstance))) am_nil)) (fun _ _ => rfl))))) (.named (i := 2) ⟨rfl, by decide, .inl T.e_BadRange.g⟩ (sub_of T.rows T.e_BadRange.g) rfl rfl (fun _ _ _ _ => (bm_one (pm_ret (em_ixA (em_lst (am_cons em_str (am_cons em_str am_nil))) (em_callTy cd_int (by rfl) T.n_int boot_int (am_cons (em_isEC T.rows T.e_ShelfError.g rfl (by first | exact Or.inl rfl | exact Or.inr (Or.inl rfl) | exact Or.inr (Or.inr rfl)) (by rfl) (by rfl) T.n_isinstance) am_nil)) (fun _ _ => rfl))))) .nil)))
    (bm_one (pm_ret em_str)))
theorem ok_law {f : Addr} {fd : FuncData} (D : TopD K mg "law" s_law ["_law_script"] f fd) (T : Tx K mg C_BadRange C_BadVersion C_ShelfError) {f_law_stream : Addr} {fd_law_stream : FuncData} (D_law_stream : TopD K mg "_law_stream" s_law_stream ["_law_script", "_law_first", "_law_count"] f_law_stream fd_law_stream) (G_law_stream : FnOk P w K mg base (L2.CX P w) 2 f_law_stream fd_law_stream ["_law_script", "_law_first", "_law_count"] (spOf K mg 3 run_law_stream)) {f_law_same : Addr} {fd_law_same : FuncData} (D_law_same : TopD K mg "_law_same" s_law_same ["_law_actual", "_law_expected"] f_law_same fd_law_same) (G_law_same : FnOk P w K mg base (L2.CX P w) 10 f_law_same fd_law_same ["_law_actual", "_law_expected"] (spOf K mg 2 (run_law_same 8))) {f_is_range : Addr} {fd_is_range : FuncData} (D_is_range : TopD K mg "is_range" s_is_range ["value"] f_is_range fd_is_range) (G_is_range : FnOk P w K mg base (L2.CX P w) 6 f_is_range fd_is_range ["value"] (spOf K mg 1 run_is_range)) {f_law_next : Addr} {fd_law_next : FuncData} (D_law_next : TopD K mg "_law_next" s_law_next ["_law_stream_here", "_law_many"] f_law_next fd_law_next) (G_law_next : FnOk P w K mg base (L2.CX P w) 1 f_law_next fd_law_next ["_law_stream_here", "_law_many"] (spOf K mg 2 run_law_next)) {f_law_alternative : Addr} {fd_law_alternative : FuncData} (D_law_alternative : TopD K mg "_law_alternative" s_law_alternative ["_law_stream_here"] f_law_alternative fd_law_alternative) (G_law_alternative : FnOk P w K mg base (L2.CX P w) 3 f_law_alternative fd_law_alternative ["_law_stream_here"] (spOf K mg 1 run_law_alternative)) {f_law_kind : Addr} {fd_law_kind : FuncData} (D_law_kind : TopD K mg "_law_kind" s_law_kind ["_law_version_here", "_law_wanted"] f_law_kind fd_law_kind) (G_law_kind : FnOk P w K mg base (L2.CX P w) 7 f_law_kind fd_law_kind ["_law_version_here", "_law_wanted"] (spOf K mg 2 run_law_kind)) : FnOk P w K mg base (L2.CX P w) 11 f fd ["_law_script"] (spOf K mg 1 run_law) :=
  fn_ok (N := N_law) (fb := b_law) D.F sc_law fun cdv A outer s H E mu0 hr => (bm_cons (pm_set (i := 1) sc_law.nd rfl (by first | exact Or.inl rfl | exact Or.inr rfl) (em_call G_law_stream (hr.mono (by decide)) (by rfl) D_law_stream.g D_law_stream.F.kp D_law_stream.b (takes_of rfl rfl rfl rfl) (am_cons (em_var 0 rfl (by first | exact Or.inl rfl | exact Or.inr (Or.inl rfl) | exact Or.inr (Or.inr rfl))) (am_cons em_int (am_cons em_int am_nil)))))
    (bm_cons (pm_set (i := 2) sc_law.nd rfl (by first | exact Or.inl rfl | exact Or.inr rfl) (em_lst (am_cons em_str (am_cons em_str (am_cons em_str (am_cons em_str (am_cons em_str (am_cons em_str (am_cons em_str (am_cons em_str (am_cons em_str (am_cons em_str (am_cons em_str (am_cons em_str (am_cons em_str (am_cons em_str (am_cons em_str (am_cons em_str am_nil))))))))))))))))))
    (bm_cons (pm_set (i := 2) sc_law.nd rfl (by first | exact Or.inl rfl | exact Or.inr rfl) (em_op od_add (em_var 2 rfl (by first | exact Or.inl rfl | exact Or.inr (Or.inl rfl) | exact Or.inr (Or.inr rfl))) (em_lst (am_cons em_str (am_cons em_str (am_cons em_str (am_cons em_str (am_cons em_str (am_cons em_str (am_cons em_str am_nil))))))))))
    (bm_cons (pm_set (i := 2) sc_law.nd rfl (by first | exact Or.inl rfl | exact Or.inr rfl) (em_op od_add (em_var 2 rfl (by first | exact Or.inl rfl | exact Or.inr (Or.inl rfl) | exact Or.inr (Or.inr rfl))) (em_lst (am_cons em_str (am_cons em_str (am_cons em_str (am_cons em_str (am_cons em_str (am_cons em_str (am_cons em_str (am_cons em_str (am_cons em_str (am_cons em_str (am_cons em_str am_nil))))))))))))))
    (bm_cons (pm_set (i := 2) sc_law.nd rfl (by first | exact Or.inl rfl | exact Or.inr rfl) (em_op od_add (em_var 2 rfl (by first | exact Or.inl rfl | exact Or.inr (Or.inl rfl) | exact Or.inr (Or.inr rfl))) (em_lst (am_cons em_str (am_cons em_str (am_cons em_str (am_cons em_str (am_cons em_str (am_cons em_str (am_cons em_str (am_cons em_str am_nil)))))))))))
    (bm_cons (pm_for (passes_of rfl) rfl (im_seq (em_var 2 rfl (by first | exact Or.inl rfl | exact Or.inr (Or.inl rfl) | exact Or.inr (Or.inr rfl)))) (gm_name sc_law.nd rfl (by first | exact Or.inl rfl | exact Or.inr rfl)) (bm_one (pm_if (tm_not (tm_tru (em_callP G_law_same (hr.mono (by decide)) (by rfl) D_law_same.g D_law_same.F.kp D_law_same.b (takes_of rfl rfl rfl rfl) (am_cons (em_callP G_is_range (hr.mono (by decide)) (by rfl) D_is_range.g D_is_range.F.kp D_is_range.b (takes_of rfl rfl rfl rfl) (am_cons (em_var 3 rfl (by first | exact Or.inl rfl | exact Or.inr (Or.inl rfl) | exact Or.inr (Or.inr rfl))) am_nil)) (am_cons em_bool am_nil))))) (bm_one (pm_ret em_bool)) bm_nil)))
    (bm_cons (pm_set (i := 4) sc_law.nd rfl (by first | exact Or.inl rfl | exact Or.inr rfl) (em_ixA (em_var 2 rfl (by first | exact Or.inl rfl | exact Or.inr (Or.inl rfl) | exact Or.inr (Or.inr rfl))) (em_op od_mod (em_call G_law_next (hr.mono (by decide)) (by rfl) D_law_next.g D_law_next.F.kp D_law_next.b (takes_of rfl rfl rfl rfl) (am_cons (em_var 1 rfl (by first | exact Or.inl rfl | exact Or.inr (Or.inl rfl) | exact Or.inr (Or.inr rfl))) (am_cons em_int am_nil))) (em_callB cd_len (by rfl) T.n_len PySem.boot_len (am_cons (em_var 2 rfl (by first | exact Or.inl rfl | exact Or.inr (Or.inl rfl) | exact Or.inr (Or.inr rfl))) am_nil))) (fun _ _ => rfl)))
    (bm_cons (pm_set (i := 5) sc_law.nd rfl (by first | exact Or.inl rfl | exact Or.inr rfl) (em_call G_law_alternative (hr.mono (by decide)) (by rfl) D_law_alternative.g D_law_alternative.F.kp D_law_alternative.b (takes_of rfl rfl rfl rfl) (am_cons (em_var 1 rfl (by first | exact Or.inl rfl | exact Or.inr (Or.inl rfl) | exact Or.inr (Or.inr rfl))) am_nil)))
    (bm_cons (pm_set (i := 6) sc_law.nd rfl (by first | exact Or.inl rfl | exact Or.inr rfl) (em_lst (am_cons (em_var 4 rfl (by first | exact Or.inl rfl | exact Or.inr (Or.inl rfl) | exact Or.inr (Or.inr rfl))) (am_cons (em_op od_add (em_op od_add (em_var 5 rfl (by first | exact Or.inl rfl | exact Or.inr (Or.inl rfl) | exact Or.inr (Or.inr rfl))) em_str) (em_var 4 rfl (by first | exact Or.inl rfl | exact Or.inr (Or.inl rfl) | exact Or.inr (Or.inr rfl)))) (am_cons (em_op od_add (em_op od_add (em_var 4 rfl (by first | exact Or.inl rfl | exact Or.inr (Or.inl rfl) | exact Or.inr (Or.inr rfl))) em_str) (em_var 5 rfl (by first | exact Or.inl rfl | exact Or.inr (Or.inl rfl) | exact Or.inr (Or.inr rfl)))) (am_cons (em_op od_add (em_op od_add (em_var 5 rfl (by first | exact Or.inl rfl | exact Or.inr (Or.inl rfl) | exact Or.inr (Or.inr rfl))) em_str) (em_var 5 rfl (by first | exact Or.inl rfl | exact Or.inr (Or.inl rfl) | exact Or.inr (Or.inr rfl)))) (am_cons (em_op od_add (em_op od_add (em_var 5 rfl (by first | exact Or.inl rfl | exact Or.inr (Or.inl rfl) | exact Or.inr (Or.inr rfl))) em_str) (em_var 5 rfl (by first | exact Or.inl rfl | exact Or.inr (Or.inl rfl) | exact Or.inr (Or.inr rfl)))) (am_cons (em_op od_add (em_op od_add (em_var 5 rfl (by first | exact Or.inl rfl | exact Or.inr (Or.inl rfl) | exact Or.inr (Or.inr rfl))) em_str) (em_var 5 rfl (by first | exact Or.inl rfl | exact Or.inr (Or.inl rfl) | exact Or.inr (Or.inr rfl)))) am_nil))))))))
    (bm_cons (pm_set (i := 6) sc_law.nd rfl (by first | exact Or.inl rfl | exact Or.inr rfl) (em_op od_add (em_var 6 rfl (by first | exact Or.inl rfl | exact Or.inr (Or.inl rfl) | exact Or.inr (Or.inr rfl))) (em_lst (am_cons (em_join em_str (em_op od_mul (em_lst (am_cons (em_var 5 rfl (by first | exact Or.inl rfl | exact Or.inr (Or.inl rfl) | exact Or.inr (Or.inr rfl))) am_nil)) em_int)) (am_cons (em_op od_add (em_var 5 rfl (by first | exact Or.inl rfl | exact Or.inr (Or.inl rfl) | exact Or.inr (Or.inr rfl))) em_str) (am_cons (em_op od_add em_str (em_var 5 rfl (by first | exact Or.inl rfl | exact Or.inr (Or.inl rfl) | exact Or.inr (Or.inr rfl)))) am_nil))))))
    (bm_cons (pm_set (i := 7) sc_law.nd rfl (by first | exact Or.inl rfl | exact Or.inr rfl) (em_ixA (em_var 6 rfl (by first | exact Or.inl rfl | exact Or.inr (Or.inl rfl) | exact Or.inr (Or.inr rfl))) (em_call G_law_next (hr.mono (by decide)) (by rfl) D_law_next.g D_law_next.F.kp D_law_next.b (takes_of rfl rfl rfl rfl) (am_cons (em_var 1 rfl (by first | exact Or.inl rfl | exact Or.inr (Or.inl rfl) | exact Or.inr (Or.inr rfl))) (am_cons em_int am_nil))) (fun _ _ => rfl)))
    (bm_cons (pm_if (wm_or (tm_not (tm_tru (em_callP G_law_same (hr.mono (by decide)) (by rfl) D_law_same.g D_law_same.F.kp D_law_same.b (takes_of rfl rfl rfl rfl) (am_cons (em_callP G_is_range (hr.mono (by decide)) (by rfl) D_is_range.g D_is_range.F.kp D_is_range.b (takes_of rfl rfl rfl rfl) (am_cons (em_var 7 rfl (by first | exact Or.inl rfl | exact Or.inr (Or.inl rfl) | exact Or.inr (Or.inr rfl))) am_nil)) (am_cons em_bool am_nil))))) (wm_or1 (tm_cmp (od_ne (hU hr)) (em_callP G_law_kind (hr.mono (by decide)) (by rfl) D_law_kind.g D_law_kind.F.kp D_law_kind.b (takes_of rfl rfl rfl rfl) (am_cons em_str (am_cons (em_var 7 rfl (by first | exact Or.inl rfl | exact Or.inr (Or.inl rfl) | exact Or.inr (Or.inr rfl))) am_nil))) em_str (by rfl)))).tm (bm_one (pm_ret em_bool)) bm_nil)
    (bm_cons (pm_set (i := 8) sc_law.nd rfl (by first | exact Or.inl rfl | exact Or.inr rfl) (em_ixA (em_lst (am_cons em_none (am_cons em_int (am_cons (em_tup (am_cons em_str am_nil)) (am_cons (em_lst (am_cons em_str am_nil)) (am_cons em_str am_nil)))))) (em_call G_law_next (hr.mono (by decide)) (by rfl) D_law_next.g D_law_next.F.kp D_law_next.b (takes_of rfl rfl rfl rfl) (am_cons (em_var 1 rfl (by first | exact Or.inl rfl | exact Or.inr (Or.inl rfl) | exact Or.inr (Or.inr rfl))) (am_cons em_int am_nil))) (fun _ _ => rfl)))
    (bm_cons (pm_if (wm_or (tm_not (tm_tru (em_callP G_law_same (hr.mono (by decide)) (by rfl) D_law_same.g D_law_same.F.kp D_law_same.b (takes_of rfl rfl rfl rfl) (am_cons (em_callP G_is_range (hr.mono (by decide)) (by rfl) D_is_range.g D_is_range.F.kp D_is_range.b (takes_of rfl rfl rfl rfl) (am_cons (em_var 8 rfl (by first | exact Or.inl rfl | exact Or.inr (Or.inl rfl) | exact Or.inr (Or.inr rfl))) am_nil)) (am_cons em_bool am_nil))))) (wm_or1 (tm_cmp (od_ne (hU hr)) (em_callP G_law_kind (hr.mono (by decide)) (by rfl) D_law_kind.g D_law_kind.F.kp D_law_kind.b (takes_of rfl rfl rfl rfl) (am_cons em_str (am_cons (em_var 7 rfl (by first | exact Or.inl rfl | exact Or.inr (Or.inl rfl) | exact Or.inr (Or.inr rfl))) am_nil))) em_str (by rfl)))).tm (bm_one (pm_ret em_bool)) bm_nil)
    (bm_one (pm_ret (em_and (em_cmp (od_eq (hU hr)) (em_callP G_law_kind (hr.mono (by decide)) (by rfl) D_law_kind.g D_law_kind.F.kp D_law_kind.b (takes_of rfl rfl rfl rfl) (am_cons em_none (am_cons (em_var 5 rfl (by first | exact Or.inl rfl | exact Or.inr (Or.inl rfl) | exact Or.inr (Or.inr rfl))) am_nil))) em_str (by rfl)) (em_one (em_cmp (od_eq (hU hr)) (em_callP G_law_kind (hr.mono (by decide)) (by rfl) D_law_kind.g D_law_kind.F.kp D_law_kind.b (takes_of rfl rfl rfl rfl) (am_cons em_str (am_cons (em_var 5 rfl (by first | exact Or.inl rfl | exact Or.inr (Or.inl rfl) | exact Or.inr (Or.inr rfl))) am_nil))) em_str (by rfl))))))))))))))))))))
end
theorem all_mk {l : PySem.W.OpenLaw} {w : World} {K : PySem.W.Frag} {h : Heap} {mg : Str → Option Value} {fa f0 f1 f2 f3 f4 f5 f6 f7 f8 f9 f10 f11 f12 f13 f14 f15 f16 f17 f18 C_BadRange C_BadVersion C_ShelfError : Addr} (X : K.In h) (G : h.Ns mainGlobals mg) (hfa : mg "law" = some (.ref fa))
    {od0 an0 : Option Addr} {sl0 : Array (Option Value)} {oc0 kV0 dc0 pm0 cd0 ct0 : Value} (a0 : PySem.W.nsIn K mainGlobals "number_of" = some (some (.ref f0))) (l0 : K.lookup f0 = some ⟨oc0, od0, .func (PySem.W.fnOf "number_of" "number_of" (defArgs s_number_of) (defBody s_number_of) (defScope s_number_of) .none kV0 dc0 pm0 an0 cd0 ct0), sl0⟩) (c0 : PySem.W.codeIn K cd0 "number_of" = true) (k0 : PySem.W.keepIn K (.ref f0) = true)
    {od1 an1 : Option Addr} {sl1 : Array (Option Value)} {oc1 kV1 dc1 pm1 cd1 ct1 : Value} (a1 : PySem.W.nsIn K mainGlobals "next_major" = some (some (.ref f1))) (l1 : K.lookup f1 = some ⟨oc1, od1, .func (PySem.W.fnOf "next_major" "next_major" (defArgs s_next_major) (defBody s_next_major) (defScope s_next_major) .none kV1 dc1 pm1 an1 cd1 ct1), sl1⟩) (c1 : PySem.W.codeIn K cd1 "next_major" = true) (k1 : PySem.W.keepIn K (.ref f1) = true)
    {od2 an2 : Option Addr} {sl2 : Array (Option Value)} {oc2 kV2 dc2 pm2 cd2 ct2 : Value} (a2 : PySem.W.nsIn K mainGlobals "is_within" = some (some (.ref f2))) (l2 : K.lookup f2 = some ⟨oc2, od2, .func (PySem.W.fnOf "is_within" "is_within" (defArgs s_is_within) (defBody s_is_within) (defScope s_is_within) .none kV2 dc2 pm2 an2 cd2 ct2), sl2⟩) (c2 : PySem.W.codeIn K cd2 "is_within" = true) (k2 : PySem.W.keepIn K (.ref f2) = true)
    {od3 an3 : Option Addr} {sl3 : Array (Option Value)} {oc3 kV3 dc3 pm3 cd3 ct3 : Value} (a3 : PySem.W.nsIn K mainGlobals "_law_cell" = some (some (.ref f3))) (l3 : K.lookup f3 = some ⟨oc3, od3, .func (PySem.W.fnOf "_law_cell" "_law_cell" (defArgs s_law_cell) (defBody s_law_cell) (defScope s_law_cell) .none kV3 dc3 pm3 an3 cd3 ct3), sl3⟩) (c3 : PySem.W.codeIn K cd3 "_law_cell" = true) (k3 : PySem.W.keepIn K (.ref f3) = true)
    {od4 an4 : Option Addr} {sl4 : Array (Option Value)} {oc4 kV4 dc4 pm4 cd4 ct4 : Value} (a4 : PySem.W.nsIn K mainGlobals "_law_draws" = some (some (.ref f4))) (l4 : K.lookup f4 = some ⟨oc4, od4, .func (PySem.W.fnOf "_law_draws" "_law_draws" (defArgs s_law_draws) (defBody s_law_draws) (defScope s_law_draws) .none kV4 dc4 pm4 an4 cd4 ct4), sl4⟩) (c4 : PySem.W.codeIn K cd4 "_law_draws" = true) (k4 : PySem.W.keepIn K (.ref f4) = true)
    {od5 an5 : Option Addr} {sl5 : Array (Option Value)} {oc5 kV5 dc5 pm5 cd5 ct5 : Value} (a5 : PySem.W.nsIn K mainGlobals "_law_next" = some (some (.ref f5))) (l5 : K.lookup f5 = some ⟨oc5, od5, .func (PySem.W.fnOf "_law_next" "_law_next" (defArgs s_law_next) (defBody s_law_next) (defScope s_law_next) .none kV5 dc5 pm5 an5 cd5 ct5), sl5⟩) (c5 : PySem.W.codeIn K cd5 "_law_next" = true) (k5 : PySem.W.keepIn K (.ref f5) = true)
    {od6 an6 : Option Addr} {sl6 : Array (Option Value)} {oc6 kV6 dc6 pm6 cd6 ct6 : Value} (a6 : PySem.W.nsIn K mainGlobals "_law_is_integer" = some (some (.ref f6))) (l6 : K.lookup f6 = some ⟨oc6, od6, .func (PySem.W.fnOf "_law_is_integer" "_law_is_integer" (defArgs s_law_is_integer) (defBody s_law_is_integer) (defScope s_law_is_integer) .none kV6 dc6 pm6 an6 cd6 ct6), sl6⟩) (c6 : PySem.W.codeIn K cd6 "_law_is_integer" = true) (k6 : PySem.W.keepIn K (.ref f6) = true)
    {od7 an7 : Option Addr} {sl7 : Array (Option Value)} {oc7 kV7 dc7 pm7 cd7 ct7 : Value} (a7 : PySem.W.nsIn K mainGlobals "version_numbers" = some (some (.ref f7))) (l7 : K.lookup f7 = some ⟨oc7, od7, .func (PySem.W.fnOf "version_numbers" "version_numbers" (defArgs s_version_numbers) (defBody s_version_numbers) (defScope s_version_numbers) .none kV7 dc7 pm7 an7 cd7 ct7), sl7⟩) (c7 : PySem.W.codeIn K cd7 "version_numbers" = true) (k7 : PySem.W.keepIn K (.ref f7) = true)
    {od8 an8 : Option Addr} {sl8 : Array (Option Value)} {oc8 kV8 dc8 pm8 cd8 ct8 : Value} (a8 : PySem.W.nsIn K mainGlobals "_law_stream" = some (some (.ref f8))) (l8 : K.lookup f8 = some ⟨oc8, od8, .func (PySem.W.fnOf "_law_stream" "_law_stream" (defArgs s_law_stream) (defBody s_law_stream) (defScope s_law_stream) .none kV8 dc8 pm8 an8 cd8 ct8), sl8⟩) (c8 : PySem.W.codeIn K cd8 "_law_stream" = true) (k8 : PySem.W.keepIn K (.ref f8) = true)
    {od9 an9 : Option Addr} {sl9 : Array (Option Value)} {oc9 kV9 dc9 pm9 cd9 ct9 : Value} (a9 : PySem.W.nsIn K mainGlobals "_law_same" = some (some (.ref f9))) (l9 : K.lookup f9 = some ⟨oc9, od9, .func (PySem.W.fnOf "_law_same" "_law_same" (defArgs s_law_same) (defBody s_law_same) (defScope s_law_same) .none kV9 dc9 pm9 an9 cd9 ct9), sl9⟩) (c9 : PySem.W.codeIn K cd9 "_law_same" = true) (k9 : PySem.W.keepIn K (.ref f9) = true)
    {od10 an10 : Option Addr} {sl10 : Array (Option Value)} {oc10 kV10 dc10 pm10 cd10 ct10 : Value} (a10 : PySem.W.nsIn K mainGlobals "_law_version" = some (some (.ref f10))) (l10 : K.lookup f10 = some ⟨oc10, od10, .func (PySem.W.fnOf "_law_version" "_law_version" (defArgs s_law_version) (defBody s_law_version) (defScope s_law_version) .none kV10 dc10 pm10 an10 cd10 ct10), sl10⟩) (c10 : PySem.W.codeIn K cd10 "_law_version" = true) (k10 : PySem.W.keepIn K (.ref f10) = true)
    {od11 an11 : Option Addr} {sl11 : Array (Option Value)} {oc11 kV11 dc11 pm11 cd11 ct11 : Value} (a11 : PySem.W.nsIn K mainGlobals "span_between" = some (some (.ref f11))) (l11 : K.lookup f11 = some ⟨oc11, od11, .func (PySem.W.fnOf "span_between" "span_between" (defArgs s_span_between) (defBody s_span_between) (defScope s_span_between) .none kV11 dc11 pm11 an11 cd11 ct11), sl11⟩) (c11 : PySem.W.codeIn K cd11 "span_between" = true) (k11 : PySem.W.keepIn K (.ref f11) = true)
    {od12 an12 : Option Addr} {sl12 : Array (Option Value)} {oc12 kV12 dc12 pm12 cd12 ct12 : Value} (a12 : PySem.W.nsIn K mainGlobals "_law_alternative" = some (some (.ref f12))) (l12 : K.lookup f12 = some ⟨oc12, od12, .func (PySem.W.fnOf "_law_alternative" "_law_alternative" (defArgs s_law_alternative) (defBody s_law_alternative) (defScope s_law_alternative) .none kV12 dc12 pm12 an12 cd12 ct12), sl12⟩) (c12 : PySem.W.codeIn K cd12 "_law_alternative" = true) (k12 : PySem.W.keepIn K (.ref f12) = true)
    {od13 an13 : Option Addr} {sl13 : Array (Option Value)} {oc13 kV13 dc13 pm13 cd13 ct13 : Value} (a13 : PySem.W.nsIn K mainGlobals "span_of" = some (some (.ref f13))) (l13 : K.lookup f13 = some ⟨oc13, od13, .func (PySem.W.fnOf "span_of" "span_of" (defArgs s_span_of) (defBody s_span_of) (defScope s_span_of) .none kV13 dc13 pm13 an13 cd13 ct13), sl13⟩) (c13 : PySem.W.codeIn K cd13 "span_of" = true) (k13 : PySem.W.keepIn K (.ref f13) = true)
    {od14 an14 : Option Addr} {sl14 : Array (Option Value)} {oc14 kV14 dc14 pm14 cd14 ct14 : Value} (a14 : PySem.W.nsIn K mainGlobals "spans_of" = some (some (.ref f14))) (l14 : K.lookup f14 = some ⟨oc14, od14, .func (PySem.W.fnOf "spans_of" "spans_of" (defArgs s_spans_of) (defBody s_spans_of) (defScope s_spans_of) .none kV14 dc14 pm14 an14 cd14 ct14), sl14⟩) (c14 : PySem.W.codeIn K cd14 "spans_of" = true) (k14 : PySem.W.keepIn K (.ref f14) = true)
    {od15 an15 : Option Addr} {sl15 : Array (Option Value)} {oc15 kV15 dc15 pm15 cd15 ct15 : Value} (a15 : PySem.W.nsIn K mainGlobals "is_range" = some (some (.ref f15))) (l15 : K.lookup f15 = some ⟨oc15, od15, .func (PySem.W.fnOf "is_range" "is_range" (defArgs s_is_range) (defBody s_is_range) (defScope s_is_range) .none kV15 dc15 pm15 an15 cd15 ct15), sl15⟩) (c15 : PySem.W.codeIn K cd15 "is_range" = true) (k15 : PySem.W.keepIn K (.ref f15) = true)
    {od16 an16 : Option Addr} {sl16 : Array (Option Value)} {oc16 kV16 dc16 pm16 cd16 ct16 : Value} (a16 : PySem.W.nsIn K mainGlobals "satisfies" = some (some (.ref f16))) (l16 : K.lookup f16 = some ⟨oc16, od16, .func (PySem.W.fnOf "satisfies" "satisfies" (defArgs s_satisfies) (defBody s_satisfies) (defScope s_satisfies) .none kV16 dc16 pm16 an16 cd16 ct16), sl16⟩) (c16 : PySem.W.codeIn K cd16 "satisfies" = true) (k16 : PySem.W.keepIn K (.ref f16) = true)
    {od17 an17 : Option Addr} {sl17 : Array (Option Value)} {oc17 kV17 dc17 pm17 cd17 ct17 : Value} (a17 : PySem.W.nsIn K mainGlobals "_law_kind" = some (some (.ref f17))) (l17 : K.lookup f17 = some ⟨oc17, od17, .func (PySem.W.fnOf "_law_kind" "_law_kind" (defArgs s_law_kind) (defBody s_law_kind) (defScope s_law_kind) .none kV17 dc17 pm17 an17 cd17 ct17), sl17⟩) (c17 : PySem.W.codeIn K cd17 "_law_kind" = true) (k17 : PySem.W.keepIn K (.ref f17) = true)
    {od18 an18 : Option Addr} {sl18 : Array (Option Value)} {oc18 kV18 dc18 pm18 cd18 ct18 : Value} (a18 : PySem.W.nsIn K mainGlobals "law" = some (some (.ref f18))) (l18 : K.lookup f18 = some ⟨oc18, od18, .func (PySem.W.fnOf "law" "law" (defArgs s_law) (defBody s_law) (defScope s_law) .none kV18 dc18 pm18 an18 cd18 ct18), sl18⟩) (c18 : PySem.W.codeIn K cd18 "law" = true) (k18 : PySem.W.keepIn K (.ref f18) = true)
    (z_ValueError : PySem.W.nsIn K mainGlobals "ValueError" = some none)
    (z_abs : PySem.W.nsIn K mainGlobals "abs" = some none)
    (z_all : PySem.W.nsIn K mainGlobals "all" = some none)
    (z_any : PySem.W.nsIn K mainGlobals "any" = some none)
    (z_bool : PySem.W.nsIn K mainGlobals "bool" = some none)
    (z_int : PySem.W.nsIn K mainGlobals "int" = some none)
    (z_isinstance : PySem.W.nsIn K mainGlobals "isinstance" = some none)
    (z_len : PySem.W.nsIn K mainGlobals "len" = some none)
    (z_list : PySem.W.nsIn K mainGlobals "list" = some none)
    (z_range : PySem.W.nsIn K mainGlobals "range" = some none)
    (z_str : PySem.W.nsIn K mainGlobals "str" = some none)
    (z_tuple : PySem.W.nsIn K mainGlobals "tuple" = some none)
    {t_DIGITS : Tok} (y_DIGITS : PySem.W.nsIn K mainGlobals "DIGITS" = some (some (.str "0123456789" t_DIGITS)))
    {t_MOST_ALTERNATIVES : Tok} (y_MOST_ALTERNATIVES : PySem.W.nsIn K mainGlobals "MOST_ALTERNATIVES" = some (some (.int 3 t_MOST_ALTERNATIVES)))
    (xa_BadRange : PySem.W.nsIn K mainGlobals "BadRange" = some (some (.ref C_BadRange))) (xb_BadRange : PySem.W.excIn K C_BadRange [.type "ValueError", .type "Exception", .type "BaseException", .type "object"] "ValueError.__new__" = true) (xc_BadRange : PySem.W.keepIn K (.ref C_BadRange) = true) (xd_BadRange : PySem.W.subIn K (.ref C_BadRange) (.type "BaseException") = some true) (xe_BadRange : PySem.W.typeIn K (.ref C_BadRange) = some (.type "type"))
    (xa_BadVersion : PySem.W.nsIn K mainGlobals "BadVersion" = some (some (.ref C_BadVersion))) (xb_BadVersion : PySem.W.excIn K C_BadVersion [.type "ValueError", .type "Exception", .type "BaseException", .type "object"] "ValueError.__new__" = true) (xc_BadVersion : PySem.W.keepIn K (.ref C_BadVersion) = true) (xd_BadVersion : PySem.W.subIn K (.ref C_BadVersion) (.type "BaseException") = some true) (xe_BadVersion : PySem.W.typeIn K (.ref C_BadVersion) = some (.type "type"))
    (q1_BadVersion : PySem.W.findIn K (.ref C_BadVersion) "__getattribute__" = some (some (.builtin "BaseException.__getattribute__"))) (q2_BadVersion : PySem.W.findIn K (.ref C_BadVersion) "__getattr__" = some none) (q3_BadVersion : PySem.W.subIn K (.ref C_BadVersion) (.type "BaseException") = some true) (q4_BadVersion : PySem.W.hasDictIn K C_BadVersion = true) (q5_BadVersion : PySem.W.findIn K (.ref C_BadVersion) "__class__" = some (some (.builtin "object.__class__"))) (q6_BadVersion : PySem.W.mroIn K C_BadVersion (.type "object") = some true) (q7_BadVersion : PySem.W.typeIn K (.ref C_BadVersion) = some (.type "type")) (q8_BadVersion : PySem.W.subIn K (.ref C_BadVersion) (.ref C_BadVersion) = some true)
    (q1_BadRange : PySem.W.findIn K (.ref C_BadRange) "__getattribute__" = some (some (.builtin "BaseException.__getattribute__"))) (q2_BadRange : PySem.W.findIn K (.ref C_BadRange) "__getattr__" = some none) (q3_BadRange : PySem.W.subIn K (.ref C_BadRange) (.type "BaseException") = some true) (q4_BadRange : PySem.W.hasDictIn K C_BadRange = true) (q5_BadRange : PySem.W.findIn K (.ref C_BadRange) "__class__" = some (some (.builtin "object.__class__"))) (q6_BadRange : PySem.W.mroIn K C_BadRange (.type "object") = some true) (q7_BadRange : PySem.W.typeIn K (.ref C_BadRange) = some (.type "type")) (q8_BadRange : PySem.W.subIn K (.ref C_BadRange) (.ref C_BadRange) = some true)
    (xa_ShelfError : PySem.W.nsIn K mainGlobals "ShelfError" = some (some (.ref C_ShelfError)))
    (q1_ShelfError : PySem.W.findIn K (.ref C_ShelfError) "__getattribute__" = some (some (.builtin "BaseException.__getattribute__"))) (q2_ShelfError : PySem.W.findIn K (.ref C_ShelfError) "__getattr__" = some none) (q3_ShelfError : PySem.W.subIn K (.ref C_ShelfError) (.type "BaseException") = some true) (q4_ShelfError : PySem.W.hasDictIn K C_ShelfError = true) (q5_ShelfError : PySem.W.findIn K (.ref C_ShelfError) "__class__" = some (some (.builtin "object.__class__"))) (q6_ShelfError : PySem.W.mroIn K C_ShelfError (.type "object") = some true) (q7_ShelfError : PySem.W.typeIn K (.ref C_ShelfError) = some (.type "type")) (q8_ShelfError : PySem.W.subIn K (.ref C_ShelfError) (.ref C_ShelfError) = some true)
    (u1 : PySem.W.specialIn K (.builtin "object.__class__") "__get__" = some (some (.builtin "getset_descriptor.__get__"))) (u2 : PySem.W.takesIn K (.builtin "object.__class__") = some true)
    (s_BadVersion_BadVersion : PySem.W.subIn K (.ref C_BadVersion) (.ref C_BadVersion) = some true)
    (s_BadVersion_BadRange : PySem.W.subIn K (.ref C_BadVersion) (.ref C_BadRange) = some false)
    (s_BadVersion_ShelfError : PySem.W.subIn K (.ref C_BadVersion) (.ref C_ShelfError) = some true)
    (s_BadVersion_ValueError : PySem.W.subIn K (.ref C_BadVersion) (.type "ValueError") = some true)
    (s_BadRange_BadVersion : PySem.W.subIn K (.ref C_BadRange) (.ref C_BadVersion) = some false)
    (s_BadRange_BadRange : PySem.W.subIn K (.ref C_BadRange) (.ref C_BadRange) = some true)
    (s_BadRange_ShelfError : PySem.W.subIn K (.ref C_BadRange) (.ref C_ShelfError) = some true)
    (s_BadRange_ValueError : PySem.W.subIn K (.ref C_BadRange) (.type "ValueError") = some true)
    : ∃ fd : FuncData, (∀ (s : Shared) (v : Value), BindsTo s fd ⟨[v], []⟩ [("_law_script", v)]) ∧ ∀ base : Heap, K.In base → base.Ns mainGlobals mg → FnOk l.prog w K mg base (L2.CX l.prog w) 11 fa fd ["_law_script"] (spOf K mg 1 run_law) := by
  have e := hfa.symm.trans (PySem.W.mg_of X G a18)
  have e : fa = f18 := by cases e; rfl
  subst e
  have E_BadVersion : EX K mg "BadVersion" C_BadVersion := ⟨PySem.W.mg_of X G xa_BadVersion, ⟨q1_BadVersion, q2_BadVersion, q3_BadVersion, q4_BadVersion, q5_BadVersion, u1, u2, q6_BadVersion⟩, q7_BadVersion, q8_BadVersion⟩
  have E_BadRange : EX K mg "BadRange" C_BadRange := ⟨PySem.W.mg_of X G xa_BadRange, ⟨q1_BadRange, q2_BadRange, q3_BadRange, q4_BadRange, q5_BadRange, u1, u2, q6_BadRange⟩, q7_BadRange, q8_BadRange⟩
  have E_ShelfError : EX K mg "ShelfError" C_ShelfError := ⟨PySem.W.mg_of X G xa_ShelfError, ⟨q1_ShelfError, q2_ShelfError, q3_ShelfError, q4_ShelfError, q5_ShelfError, u1, u2, q6_ShelfError⟩, q7_ShelfError, q8_ShelfError⟩
  have R : ∀ r ∈ exRows, ExRow.ok K mg r := by
    intro r hr
    unfold exRows at hr
    rcases List.mem_cons.mp hr with rfl | hr
    · exact row_cls E_BadVersion E_BadVersion s_BadVersion_BadVersion
    rcases List.mem_cons.mp hr with rfl | hr
    · exact row_cls E_BadVersion E_BadRange s_BadVersion_BadRange
    rcases List.mem_cons.mp hr with rfl | hr
    · exact row_cls E_BadVersion E_ShelfError s_BadVersion_ShelfError
    rcases List.mem_cons.mp hr with rfl | hr
    · exact row_blt E_BadVersion (PySem.W.mg_none_of X G z_ValueError) boot_ValueError (by decide +kernel) s_BadVersion_ValueError
    rcases List.mem_cons.mp hr with rfl | hr
    · exact row_cls E_BadRange E_BadVersion s_BadRange_BadVersion
    rcases List.mem_cons.mp hr with rfl | hr
    · exact row_cls E_BadRange E_BadRange s_BadRange_BadRange
    rcases List.mem_cons.mp hr with rfl | hr
    · exact row_cls E_BadRange E_ShelfError s_BadRange_ShelfError
    rcases List.mem_cons.mp hr with rfl | hr
    · exact row_blt E_BadRange (PySem.W.mg_none_of X G z_ValueError) boot_ValueError (by decide +kernel) s_BadRange_ValueError
    cases hr
  have T : Tx K mg C_BadRange C_BadVersion C_ShelfError := ⟨PySem.W.mg_none_of X G z_ValueError, PySem.W.mg_none_of X G z_abs, PySem.W.mg_none_of X G z_all, PySem.W.mg_none_of X G z_any, PySem.W.mg_none_of X G z_bool, PySem.W.mg_none_of X G z_int, PySem.W.mg_none_of X G z_isinstance, PySem.W.mg_none_of X G z_len, PySem.W.mg_none_of X G z_list, PySem.W.mg_none_of X G z_range, PySem.W.mg_none_of X G z_str, PySem.W.mg_none_of X G z_tuple, ⟨_, PySem.W.mg_of X G y_DIGITS⟩, ⟨_, PySem.W.mg_of X G y_MOST_ALTERNATIVES⟩, ⟨PySem.W.mg_of X G xa_BadRange, xb_BadRange, xc_BadRange, xd_BadRange, xe_BadRange⟩, ⟨PySem.W.mg_of X G xa_BadVersion, xb_BadVersion, xc_BadVersion, xd_BadVersion, xe_BadVersion⟩, E_BadVersion, E_BadRange, E_ShelfError, R⟩
  have F0 := fun_mk (st := s_number_of) l0 c0 k0
  have D_number_of : TopD K mg "number_of" s_number_of ["text"] f0 _ := ⟨F0, F0.binds (ps := ["text"]) fun _ _ _ _ _ _ us hl => match us, hl with | [_], _ => rfl, PySem.W.mg_of X G a0⟩
  have F1 := fun_mk (st := s_next_major) l1 c1 k1
  have D_next_major : TopD K mg "next_major" s_next_major ["numbers"] f1 _ := ⟨F1, F1.binds (ps := ["numbers"]) fun _ _ _ _ _ _ us hl => match us, hl with | [_], _ => rfl, PySem.W.mg_of X G a1⟩
  have F2 := fun_mk (st := s_is_within) l2 c2 k2
  have D_is_within : TopD K mg "is_within" s_is_within ["numbers", "span"] f2 _ := ⟨F2, F2.binds (ps := ["numbers", "span"]) fun _ _ _ _ _ _ us hl => match us, hl with | [_, _], _ => rfl, PySem.W.mg_of X G a2⟩
  have F3 := fun_mk (st := s_law_cell) l3 c3 k3
  have D_law_cell : TopD K mg "_law_cell" s_law_cell ["_law_script", "_law_k"] f3 _ := ⟨F3, F3.binds (ps := ["_law_script", "_law_k"]) fun _ _ _ _ _ _ us hl => match us, hl with | [_, _], _ => rfl, PySem.W.mg_of X G a3⟩
  have F4 := fun_mk (st := s_law_draws) l4 c4 k4
  have D_law_draws : TopD K mg "_law_draws" s_law_draws ["_law_cell_here", "_law_count"] f4 _ := ⟨F4, F4.binds (ps := ["_law_cell_here", "_law_count"]) fun _ _ _ _ _ _ us hl => match us, hl with | [_, _], _ => rfl, PySem.W.mg_of X G a4⟩
  have F5 := fun_mk (st := s_law_next) l5 c5 k5
  have D_law_next : TopD K mg "_law_next" s_law_next ["_law_stream_here", "_law_many"] f5 _ := ⟨F5, F5.binds (ps := ["_law_stream_here", "_law_many"]) fun _ _ _ _ _ _ us hl => match us, hl with | [_, _], _ => rfl, PySem.W.mg_of X G a5⟩
  have F6 := fun_mk (st := s_law_is_integer) l6 c6 k6
  have D_law_is_integer : TopD K mg "_law_is_integer" s_law_is_integer ["_law_actual"] f6 _ := ⟨F6, F6.binds (ps := ["_law_actual"]) fun _ _ _ _ _ _ us hl => match us, hl with | [_], _ => rfl, PySem.W.mg_of X G a6⟩
  have F7 := fun_mk (st := s_version_numbers) l7 c7 k7
  have D_version_numbers : TopD K mg "version_numbers" s_version_numbers ["value"] f7 _ := ⟨F7, F7.binds (ps := ["value"]) fun _ _ _ _ _ _ us hl => match us, hl with | [_], _ => rfl, PySem.W.mg_of X G a7⟩
  have F8 := fun_mk (st := s_law_stream) l8 c8 k8
  have D_law_stream : TopD K mg "_law_stream" s_law_stream ["_law_script", "_law_first", "_law_count"] f8 _ := ⟨F8, F8.binds (ps := ["_law_script", "_law_first", "_law_count"]) fun _ _ _ _ _ _ us hl => match us, hl with | [_, _, _], _ => rfl, PySem.W.mg_of X G a8⟩
  have F9 := fun_mk (st := s_law_same) l9 c9 k9
  have D_law_same : TopD K mg "_law_same" s_law_same ["_law_actual", "_law_expected"] f9 _ := ⟨F9, F9.binds (ps := ["_law_actual", "_law_expected"]) fun _ _ _ _ _ _ us hl => match us, hl with | [_, _], _ => rfl, PySem.W.mg_of X G a9⟩
  have F10 := fun_mk (st := s_law_version) l10 c10 k10
  have D_law_version : TopD K mg "_law_version" s_law_version ["_law_stream_here"] f10 _ := ⟨F10, F10.binds (ps := ["_law_stream_here"]) fun _ _ _ _ _ _ us hl => match us, hl with | [_], _ => rfl, PySem.W.mg_of X G a10⟩
  have F11 := fun_mk (st := s_span_between) l11 c11 k11
  have D_span_between : TopD K mg "span_between" s_span_between ["text"] f11 _ := ⟨F11, F11.binds (ps := ["text"]) fun _ _ _ _ _ _ us hl => match us, hl with | [_], _ => rfl, PySem.W.mg_of X G a11⟩
  have F12 := fun_mk (st := s_law_alternative) l12 c12 k12
  have D_law_alternative : TopD K mg "_law_alternative" s_law_alternative ["_law_stream_here"] f12 _ := ⟨F12, F12.binds (ps := ["_law_stream_here"]) fun _ _ _ _ _ _ us hl => match us, hl with | [_], _ => rfl, PySem.W.mg_of X G a12⟩
  have F13 := fun_mk (st := s_span_of) l13 c13 k13
  have D_span_of : TopD K mg "span_of" s_span_of ["text"] f13 _ := ⟨F13, F13.binds (ps := ["text"]) fun _ _ _ _ _ _ us hl => match us, hl with | [_], _ => rfl, PySem.W.mg_of X G a13⟩
  have F14 := fun_mk (st := s_spans_of) l14 c14 k14
  have D_spans_of : TopD K mg "spans_of" s_spans_of ["value"] f14 _ := ⟨F14, F14.binds (ps := ["value"]) fun _ _ _ _ _ _ us hl => match us, hl with | [_], _ => rfl, PySem.W.mg_of X G a14⟩
  have F15 := fun_mk (st := s_is_range) l15 c15 k15
  have D_is_range : TopD K mg "is_range" s_is_range ["value"] f15 _ := ⟨F15, F15.binds (ps := ["value"]) fun _ _ _ _ _ _ us hl => match us, hl with | [_], _ => rfl, PySem.W.mg_of X G a15⟩
  have F16 := fun_mk (st := s_satisfies) l16 c16 k16
  have D_satisfies : TopD K mg "satisfies" s_satisfies ["version", "wanted"] f16 _ := ⟨F16, F16.binds (ps := ["version", "wanted"]) fun _ _ _ _ _ _ us hl => match us, hl with | [_, _], _ => rfl, PySem.W.mg_of X G a16⟩
  have F17 := fun_mk (st := s_law_kind) l17 c17 k17
  have D_law_kind : TopD K mg "_law_kind" s_law_kind ["_law_version_here", "_law_wanted"] f17 _ := ⟨F17, F17.binds (ps := ["_law_version_here", "_law_wanted"]) fun _ _ _ _ _ _ us hl => match us, hl with | [_, _], _ => rfl, PySem.W.mg_of X G a17⟩
  have F18 := fun_mk (st := s_law) l18 c18 k18
  have D_law : TopD K mg "law" s_law ["_law_script"] fa _ := ⟨F18, F18.binds (ps := ["_law_script"]) fun _ _ _ _ _ _ us hl => match us, hl with | [_], _ => rfl, PySem.W.mg_of X G a18⟩
  refine ⟨PySem.W.fnOf "law" "law" (defArgs s_law) (defBody s_law) (defScope s_law) .none kV18 dc18 pm18 an18 cd18 ct18, fun s v => .of_eq rfl, fun base _ _ => ?_⟩
  have G_number_of := ok_number_of (P := l.prog) (w := w) (base := base) D_number_of T 
  have G_next_major := ok_next_major (P := l.prog) (w := w) (base := base) D_next_major T 
  have G_is_within := ok_is_within (P := l.prog) (w := w) (base := base) D_is_within T 
  have G_law_cell := ok_law_cell (P := l.prog) (w := w) (base := base) D_law_cell T 
  have G_law_draws := ok_law_draws (P := l.prog) (w := w) (base := base) D_law_draws T 
  have G_law_next := ok_law_next (P := l.prog) (w := w) (base := base) D_law_next T 
  have G_law_is_integer := ok_law_is_integer (P := l.prog) (w := w) (base := base) D_law_is_integer T 
  have G_version_numbers := ok_version_numbers (P := l.prog) (w := w) (base := base) D_version_numbers T D_number_of G_number_of
  have G_law_stream := ok_law_stream (P := l.prog) (w := w) (base := base) D_law_stream T D_law_draws G_law_draws D_law_cell G_law_cell
  have G_law_same := ok_law_same (P := l.prog) (w := w) (base := base) D_law_same T D_law_is_integer G_law_is_integer 8
  have G_law_version := ok_law_version (P := l.prog) (w := w) (base := base) D_law_version T D_law_next G_law_next
  have G_span_between := ok_span_between (P := l.prog) (w := w) (base := base) D_span_between T D_version_numbers G_version_numbers
  have G_law_alternative := ok_law_alternative (P := l.prog) (w := w) (base := base) D_law_alternative T D_law_next G_law_next D_law_version G_law_version
  have G_span_of := ok_span_of (P := l.prog) (w := w) (base := base) D_span_of T D_span_between G_span_between D_version_numbers G_version_numbers D_next_major G_next_major
  have G_spans_of := ok_spans_of (P := l.prog) (w := w) (base := base) D_spans_of T D_span_of G_span_of
  have G_is_range := ok_is_range (P := l.prog) (w := w) (base := base) D_is_range T D_spans_of G_spans_of
  have G_satisfies := ok_satisfies (P := l.prog) (w := w) (base := base) D_satisfies T D_version_numbers G_version_numbers D_spans_of G_spans_of D_is_within G_is_within
  have G_law_kind := ok_law_kind (P := l.prog) (w := w) (base := base) D_law_kind T D_satisfies G_satisfies
  have G_law := ok_law (P := l.prog) (w := w) (base := base) D_law T D_law_stream G_law_stream D_law_same G_law_same D_is_range G_is_range D_law_next G_law_next D_law_alternative G_law_alternative D_law_kind G_law_kind
  exact G_law
end Q
namespace Q
open PySem PySem.Spec PyProof.Rows L2 U
theorem walk {l : PySem.W.OpenLaw} {q : Program} {loose : List Str} {XP : (Str → Option Value) → Heap → Prop} {YP : World → Heap → Prop} {d : DefRec} {K : Params → PySem.W.Frag} (hn : l.most = some 63) (hdf : d.params.defaults = [])
    (hY : ∀ (w : World) (h : Heap), YP w h → (K w.params).In h)
    (F : ∀ (w : World) (mg : Str → Option Value) (fa : Addr) (h : Heap), (K w.params).In h → h.Ns mainGlobals mg → mg d.name = some (.ref fa) →
      ∃ fd : FuncData, (∀ (s : Shared) (u : Value), BindsTo s fd ⟨[u], []⟩ [("_law_script", u)]) ∧ ∀ base : Heap, (K w.params).In base → base.Ns mainGlobals mg → FnOk l.prog w (K w.params) mg base (L2.CX l.prog w) 11 fa fd ["_law_script"] (spOf (K w.params) mg 1 run_law)) :
    PySem.W.WalkO q loose XP YP l.row.toRowW d [] (fun f vs => PySem.call f vs) :=
  law_walk hn hdf ⟨rfl, by decide, by decide⟩ hY F law_true
end Q
open PySem PySem.W PyProof.Rows
set_option maxHeartbeats 0 in
theorem PySem.Challenge.cw_peershelf_k02_no_ranges_holds : PySem.Challenge.rw_peershelf_k02_no_ranges.Holds := by
  w_on; o_law; k_head; (case hw => w_witness2)
  k_fill
  refine Q.walk (l := PySem.Challenge.rw_peershelf_k02_no_ranges) rfl rfl (fun w h Y => PySem.W.kIn_of Y) ?F
  case F =>
    intro w mg fa h KX G hmg
    refine' Q.all_mk KX G hmg ?a0 ?l0 ?c0 ?k0 ?a1 ?l1 ?c1 ?k1 ?a2 ?l2 ?c2 ?k2 ?a3 ?l3 ?c3 ?k3 ?a4 ?l4 ?c4 ?k4 ?a5 ?l5 ?c5 ?k5 ?a6 ?l6 ?c6 ?k6 ?a7 ?l7 ?c7 ?k7 ?a8 ?l8 ?c8 ?k8 ?a9 ?l9 ?c9 ?k9 ?a10 ?l10 ?c10 ?k10 ?a11 ?l11 ?c11 ?k11 ?a12 ?l12 ?c12 ?k12 ?a13 ?l13 ?c13 ?k13 ?a14 ?l14 ?c14 ?k14 ?a15 ?l15 ?c15 ?k15 ?a16 ?l16 ?c16 ?k16 ?a17 ?l17 ?c17 ?k17 ?a18 ?l18 ?c18 ?k18 ?z_ValueError ?z_abs ?z_all ?z_any ?z_bool ?z_int ?z_isinstance ?z_len ?z_list ?z_range ?z_str ?z_tuple ?y_DIGITS ?y_MOST_ALTERNATIVES ?xa_BadRange ?xb_BadRange ?xc_BadRange ?xd_BadRange ?xe_BadRange ?xa_BadVersion ?xb_BadVersion ?xc_BadVersion ?xd_BadVersion ?xe_BadVersion ?q1_BadVersion ?q2_BadVersion ?q3_BadVersion ?q4_BadVersion ?q5_BadVersion ?q6_BadVersion ?q7_BadVersion ?q8_BadVersion ?q1_BadRange ?q2_BadRange ?q3_BadRange ?q4_BadRange ?q5_BadRange ?q6_BadRange ?q7_BadRange ?q8_BadRange ?xa_ShelfError ?q1_ShelfError ?q2_ShelfError ?q3_ShelfError ?q4_ShelfError ?q5_ShelfError ?q6_ShelfError ?q7_ShelfError ?q8_ShelfError ?u1 ?u2 ?s_BadVersion_BadVersion ?s_BadVersion_BadRange ?s_BadVersion_ShelfError ?s_BadVersion_ValueError ?s_BadRange_BadVersion ?s_BadRange_BadRange ?s_BadRange_ShelfError ?s_BadRange_ValueError
    (case a0 => k_is)
    (case l0 => k_is)
    (case c0 => k_is)
    (case k0 => k_is)
    (case a1 => k_is)
    (case l1 => k_is)
    (case c1 => k_is)
    (case k1 => k_is)
    (case a2 => k_is)
    (case l2 => k_is)
    (case c2 => k_is)
    (case k2 => k_is)
    (case a3 => k_is)
    (case l3 => k_is)
    (case c3 => k_is)
    (case k3 => k_is)
    (case a4 => k_is)
    (case l4 => k_is)
    (case c4 => k_is)
    (case k4 => k_is)
    (case a5 => k_is)
    (case l5 => k_is)
    (case c5 => k_is)
    (case k5 => k_is)
    (case a6 => k_is)
    (case l6 => k_is)
    (case c6 => k_is)
    (case k6 => k_is)
    (case a7 => k_is)
    (case l7 => k_is)
    (case c7 => k_is)
    (case k7 => k_is)
    (case a8 => k_is)
    (case l8 => k_is)
    (case c8 => k_is)
    (case k8 => k_is)
    (case a9 => k_is)
    (case l9 => k_is)
    (case c9 => k_is)
    (case k9 => k_is)
    (case a10 => k_is)
    (case l10 => k_is)
    (case c10 => k_is)
    (case k10 => k_is)
    (case a11 => k_is)
    (case l11 => k_is)
    (case c11 => k_is)
    (case k11 => k_is)
    (case a12 => k_is)
    (case l12 => k_is)
    (case c12 => k_is)
    (case k12 => k_is)
    (case a13 => k_is)
    (case l13 => k_is)
    (case c13 => k_is)
    (case k13 => k_is)
    (case a14 => k_is)
    (case l14 => k_is)
    (case c14 => k_is)
    (case k14 => k_is)
    (case a15 => k_is)
    (case l15 => k_is)
    (case c15 => k_is)
    (case k15 => k_is)
    (case a16 => k_is)
    (case l16 => k_is)
    (case c16 => k_is)
    (case k16 => k_is)
    (case a17 => k_is)
    (case l17 => k_is)
    (case c17 => k_is)
    (case k17 => k_is)
    (case a18 => k_is)
    (case l18 => k_is)
    (case c18 => k_is)
    (case k18 => k_is)
    (case z_ValueError => k_is)
    (case z_abs => k_is)
    (case z_all => k_is)
    (case z_any => k_is)
    (case z_bool => k_is)
    (case z_int => k_is)
    (case z_isinstance => k_is)
    (case z_len => k_is)
    (case z_list => k_is)
    (case z_range => k_is)
    (case z_str => k_is)
    (case z_tuple => k_is)
    (case y_DIGITS => k_is)
    (case y_MOST_ALTERNATIVES => k_is)
    (case xa_BadRange => k_is)
    (case xb_BadRange => k_exc)
    (case xc_BadRange => k_is)
    (case xd_BadRange => k_is)
    (case xe_BadRange => k_is)
    (case xa_BadVersion => k_is)
    (case xb_BadVersion => k_exc)
    (case xc_BadVersion => k_is)
    (case xd_BadVersion => k_is)
    (case xe_BadVersion => k_is)
    (case q1_BadVersion => k_is)
    (case q2_BadVersion => k_is)
    (case q3_BadVersion => k_is)
    (case q4_BadVersion => k_is)
    (case q5_BadVersion => k_is)
    (case q6_BadVersion => k_is)
    (case q7_BadVersion => k_is)
    (case q8_BadVersion => k_is)
    (case q1_BadRange => k_is)
    (case q2_BadRange => k_is)
    (case q3_BadRange => k_is)
    (case q4_BadRange => k_is)
    (case q5_BadRange => k_is)
    (case q6_BadRange => k_is)
    (case q7_BadRange => k_is)
    (case q8_BadRange => k_is)
    (case xa_ShelfError => k_is)
    (case q1_ShelfError => k_is)
    (case q2_ShelfError => k_is)
    (case q3_ShelfError => k_is)
    (case q4_ShelfError => k_is)
    (case q5_ShelfError => k_is)
    (case q6_ShelfError => k_is)
    (case q7_ShelfError => k_is)
    (case q8_ShelfError => k_is)
    (case u1 => k_is)
    (case u2 => k_is)
    (case s_BadVersion_BadVersion => k_is)
    (case s_BadVersion_BadRange => k_is)
    (case s_BadVersion_ShelfError => k_is)
    (case s_BadVersion_ValueError => k_is)
    (case s_BadRange_BadVersion => k_is)
    (case s_BadRange_BadRange => k_is)
    (case s_BadRange_ShelfError => k_is)
    (case s_BadRange_ValueError => k_is)
