import PyProof.Rows.All
import Wide.All
import OpenK.AllK
import Wide.FinOn
import HandS.ForMost
import HandS.Exc
import HandS.Ends
import HandS.SortInts
import HandS.Iter
import HandS.Conv
import HandS.TryMany
import HandS.Wide
import HandS.IsInst
import HandS.Style
import HandS.Zip
import HandS.Deep
import HandS.Star
import HandS.Flow
import HandS.ExcOwn
import HandS.TupAny
import HandS.TupLe
import KE.GoesEnum
import KE.GoesZip
import KE.GoesMore
import HandS.Walk
import HandS.Comp
import HandS.TryOnly
import PySem.Challenge.RW_sidestaken_k74_whole_main_stretches_off
set_option Elab.async false
set_option linter.all false
set_option maxRecDepth 100000
/-! SdB: how arguments come to plain parameters. -/
namespace Sd
open PySem PySem.Spec PyProof.Rows L2
/-- parameters without defaults, none by its place or its name alone -/
structure PlainPs (p : Arguments) : Prop where
  a : p.posonlyargs = []
  b : p.vararg = none
  c : p.kwonlyargs = []
  d : p.kwarg = none
def perm {α : Type} (d : α) (ps ks : List Str) (as kas : List α) : List α := as ++ (ps.drop as.length).map fun p => ((ks.zip kas).lookup p).getD d
def permOk (ps ks : List Str) (na nk : Nat) : Bool := decide (na + nk = ps.length) && decide (ks.length = nk) && decide ks.Nodup && (ks.all fun k => (ps.drop na).contains k) && (ps.drop na).all fun k => ks.contains k
theorem kw_loop {β : Type} {normal : List Str} {F : Str × Value → List (Str × Value) × β → Sem (ForInStep (List (Str × Value) × β))}
    (hF : ∀ x s, normal.contains x.1 = true → (s.1.lookup x.1).isSome = false → F x s = pure (.yield (s.1 ++ [(x.1, x.2)], s.2))) :
    ∀ (kw : List (Str × Value)) (s : List (Str × Value) × β), (∀ x ∈ kw, normal.contains x.1 = true) → (kw.map (·.1)).Nodup → (∀ x ∈ kw, s.1.lookup x.1 = none) → forIn kw s F = pure (s.1 ++ kw, s.2)
  | [], s, _, _, _ => by rw [List.forIn_nil, List.append_nil]
  | x :: kw, s, h1, h2, h3 => by
    rw [List.forIn_cons, hF x s (h1 x List.mem_cons_self) (by rw [h3 x List.mem_cons_self]; rfl)]
    have h2' := List.nodup_cons.mp (by simpa using h2 : (x.1 :: kw.map (·.1)).Nodup)
    have ih := kw_loop hF kw (s.1 ++ [(x.1, x.2)], s.2) (fun z hz => h1 z (List.mem_cons_of_mem _ hz)) h2'.2 (fun z hz => by
      show (s.1 ++ [(x.1, x.2)]).lookup z.1 = none
      rw [List.lookup_append, h3 z (List.mem_cons_of_mem _ hz)]
      have ne : (z.1 == x.1) = false := by
        rw [beq_eq_false_iff_ne]
        exact fun e => h2'.1 (e ▸ List.mem_map_of_mem hz)
      simp [List.lookup_cons, ne])
    show forIn kw (s.1 ++ [(x.1, x.2)], s.2) F = _
    rw [ih]
    simp
theorem lookup_zip_none {α : Type} : ∀ (ps : List Str) (us : List α) (k : Str), k ∉ ps.take us.length → (ps.zip us).lookup k = none
  | [], _, _, _ => rfl
  | _ :: _, [], _, _ => rfl
  | p :: ps, u :: us, k, h => by
    have h' : k ≠ p ∧ k ∉ ps.take us.length := by simpa using h
    rw [List.zip_cons_cons, List.lookup_cons]
    have ne : (k == p) = false := by rw [beq_eq_false_iff_ne]; exact h'.1
    rw [ne]
    exact lookup_zip_none ps us k h'.2
theorem lookup_zip_some {α : Type} : ∀ (ps : List Str) (us : List α) (i : Nat) (k : Str) (u : α), ps.Nodup → ps[i]? = some k → us[i]? = some u → (ps.zip us).lookup k = some u
  | [], _, _, _, _, _, h, _ => by simp at h
  | _ :: _, [], _, _, _, _, _, h => by simp at h
  | p :: ps, w :: us, 0, k, u, nd, h1, h2 => by
    simp at h1 h2; subst h1; subst h2
    simp [List.lookup_cons]
  | p :: ps, w :: us, i + 1, k, u, nd, h1, h2 => by
    have ne : (k == p) = false := by
      rw [beq_eq_false_iff_ne]
      rintro rfl
      exact (List.nodup_cons.mp nd).1 (List.mem_of_getElem? (by simpa using h1))
    rw [List.zip_cons_cons, List.lookup_cons, ne]
    exact lookup_zip_some ps us i k u (List.nodup_cons.mp nd).2 (by simpa using h1) (by simpa using h2)
theorem filterMap_zip {ps : List Str} {l : List Value} {S : List (Str × Value)} (hl : l.length = ps.length) (h : ∀ i (hi : i < ps.length), S.lookup ps[i] = l[i]?) : (ps.filterMap fun n => (S.lookup n).map (n, ·)) = ps.zip l := by
  induction ps generalizing l with
  | nil => rfl
  | cons p ps ih =>
    cases l with
    | nil => simp at hl
    | cons v l =>
      have h0 := h 0 (by simp)
      simp at h0
      rw [List.filterMap_cons, h0]
      show (p, v) :: _ = (p, v) :: _
      rw [ih (by simpa using hl) (fun i hi => by have := h (i + 1) (by simpa using hi); simpa using this)]
      rfl
theorem seqNone : seqItems? .none = pure none := rfl
theorem bind_plain {fd : FuncData} (h : PlainPs fd.params) (hd : fd.defaults = .none) {ps : List Str} (hps : fd.params.args.map (·.arg) = ps) (nd : ps.Nodup) {ks : List Str} {us ws : List Value} (ok : permOk ps ks us.length ws.length = true) :
    bindArgs fd ⟨us, ks.zip ws⟩ = pure (ps.zip (perm .none ps ks us ws)) := by
  simp only [permOk, Bool.and_eq_true, decide_eq_true_eq, List.all_eq_true, List.contains_iff_mem] at ok
  obtain ⟨⟨⟨⟨o1, o2⟩, o3⟩, o4⟩, o5⟩ := ok
  have keys : (ks.zip ws).map (·.1) = ks := by
    rw [List.map_fst_zip]; omega
  have off : ∀ k ∈ ks, (ps.zip us).lookup k = none := fun k hk => by
    refine lookup_zip_none ps us k fun hm => ?_
    have h4 := o4 k hk
    obtain ⟨i, hi⟩ := List.getElem?_of_mem hm
    obtain ⟨j, hj⟩ := List.getElem?_of_mem h4
    have hi' : i < us.length ∧ ps[i]? = some k := by
      rw [List.getElem?_take] at hi
      split at hi
      · exact ⟨by assumption, hi⟩
      · cases hi
    rw [List.getElem?_drop] at hj
    have := nodup_ix nd hi'.2 hj
    omega
  have hl : (perm .none ps ks us ws).length = ps.length := by
    unfold perm
    rw [List.length_append, List.length_map, List.length_drop]; omega
  have at_ : ∀ i (hi : i < ps.length), (ps.zip us ++ ks.zip ws).lookup ps[i] = (perm .none ps ks us ws)[i]? := fun i hi => by
    rw [List.lookup_append]
    unfold perm
    by_cases hu : i < us.length
    · rw [lookup_zip_some ps us i ps[i] us[i] nd (List.getElem?_eq_getElem hi) (List.getElem?_eq_getElem hu), List.getElem?_append_left hu, List.getElem?_eq_getElem hu]
      rfl
    · have h0 : (ps.zip us).lookup ps[i] = none := lookup_zip_none ps us _ fun hm => by
        obtain ⟨j, hj⟩ := List.getElem?_of_mem hm
        rw [List.getElem?_take] at hj
        split at hj
        · have := nodup_ix nd hj (List.getElem?_eq_getElem hi)
          omega
        · cases hj
      rw [h0, List.getElem?_append_right (by omega), List.getElem?_map, List.getElem?_drop]
      have e : us.length + (i - us.length) = i := by omega
      rw [e, List.getElem?_eq_getElem hi]
      have hk : ps[i] ∈ ks := o5 _ (by
        have : (ps.drop us.length)[i - us.length]? = some ps[i] := by rw [List.getElem?_drop, e, List.getElem?_eq_getElem hi]
        exact List.mem_of_getElem? this)
      obtain ⟨j, hj⟩ := List.getElem?_of_mem hk
      have hjl : j < ws.length := by rw [← o2]; exact (List.getElem?_eq_some_iff.mp hj).1
      have hz := lookup_zip_some ks ws j ps[i] ws[j] o3 hj (List.getElem?_eq_getElem hjl)
      rw [hz, Option.map_some, hz]; rfl
  have miss : (ps.filter fun n => ((ps.zip us ++ ks.zip ws).lookup n).isNone) = [] := by
    rw [List.filter_eq_nil_iff]
    intro n hn
    obtain ⟨i, hi⟩ := List.getElem?_of_mem hn
    obtain ⟨hi1, hi2⟩ := List.getElem?_eq_some_iff.mp hi
    rw [← hi2, at_ i hi1, List.getElem?_eq_getElem (by omega)]
    simp
  unfold bindArgs
  simp only [h.a, h.b, h.c, h.d, hd, hps, List.map_nil, List.nil_append, List.append_nil]
  rw [kw_loop (normal := ps) (fun x s h1 h2 => by
    simp only [h1, h2, Bool.true_or, if_true, Bool.false_eq_true, if_false]) (ks.zip ws) (ps.zip us, []) (fun x hx => ?_) (by rw [keys]; exact o3) (fun x hx => off x.1 (List.of_mem_zip hx).1)]
  · rw [seqNone]
    simp only [pure_bind, Option.getD_none, List.isEmpty_nil]
    rw [if_neg (by simp; omega)]
    simp only [List.drop_nil, List.length_nil, Nat.sub_zero, List.take_length, List.zip_nil_right, List.forIn_nil, pure_bind]
    rw [miss]
    simp only [List.isEmpty_nil, Bool.not_true, Bool.false_eq_true, if_false]
    rw [filterMap_zip hl at_]
  · have := o4 x.1 (List.of_mem_zip hx).1
    rw [List.contains_iff_mem]; exact List.mem_of_mem_drop this
end Sd

/-! SdG: promises of defs that are called where no list's text is being made. -/
namespace Sd
open PySem PySem.Spec PyProof.Rows L2
/-- room, and no container's text is under way -/
structure RoomG (k : Nat) (A : Around) : Prop where
  r : Room k A
  g : A.guards = some []
theorem RoomG.mono {j k : Nat} {A : Around} (h : RoomG k A) (l : j ≤ k) : RoomG j A := ⟨h.r.mono l, h.g⟩
theorem RoomG.deeper {k : Nat} {A : Around} (h : RoomG (k + 1) A) (env : Env) : RoomG k (A.deeper env) := ⟨h.r.deeper env, h.g⟩
structure FnG (P : Program) (w : World) (K : PySem.W.Frag) (mg : Str → Option Value) (base : Heap) (CX : CXT) (k : Nat) (f : Addr) (fd : FuncData) (ps : List Str) (sp : Sp) : Prop where
  len : ∀ vs H Q E, sp vs H Q E → vs.length = ps.length
  run : ∀ {A : Around} {outer : List Env} {s : Shared} {H : Hp} {args : Args} {us : List Value} {vs : List V} {Q : VK} {E : XK}, RoomG k A → Env0 P w K mg base A outer s H → BindsTo s fd args (ps.zip us) → Vals vs us → sp vs H Q E →
    codeAny (model P w) A (.call (.ref f) args) (CR CX outer P w H s Q E) s
section
variable {P : Program} {w : World} {K : PySem.W.Frag} {mg : Str → Option Value} {base : Heap} {CX : CXT} {j k : Nat} {f : Addr} {fd : FuncData} {ps : List Str} {sp sp' : Sp}
theorem FnG.mono (F : FnG P w K mg base CX j f fd ps sp) (h : j ≤ k) : FnG P w K mg base CX k f fd ps sp := ⟨F.len, fun r e b v q => F.run (r.mono h) e b v q⟩
theorem FnG.imp (F : FnG P w K mg base CX k f fd ps sp) (h : ∀ vs H Q E, sp' vs H Q E → sp vs H Q E) : FnG P w K mg base CX k f fd ps sp' := ⟨fun vs H Q E q => F.len vs H Q E (h _ _ _ _ q), fun r e b v q => F.run r e b v (h _ _ _ _ q)⟩
end
/-- a def by its body -/
theorem fn_ofG {CX : CXT} {P : Program} {w : World} {K : PySem.W.Frag} {mg : Str → Option Value} {base : Heap} {k : Nat} {f : Addr} {x qual : Str} {params : Arguments} {body : List Stmt} {sc : Scope} {dV kV doc pm cdv ct oc : Value} {an od : Option Addr} {osl : Array (Option Value)} {N ps : List Str} {sp : Sp}
    (lk : K.lookup f = some ⟨oc, od, .func (PySem.W.fnOf x qual params body sc dV kV doc pm an cdv ct), osl⟩) (hcd : PySem.W.codeIn K cdv qual = true) (S : FnScope N ps sc) (len : ∀ vs H Q E, sp vs H Q E → vs.length = ps.length)
    (walk : ∀ (A : Around) (outer : List Env) (s : Shared) (H : Hp) (vs : List V) (Q : VK) (E : XK), RoomG k (A.deeper (envOfC qual sc s.heap.objs.size f cdv)) → sp vs H Q E → ∃ t, PSs (cxOf CX P w K mg base N qual sc f cdv A outer s H E) body t ∧ t { nx := fun _ H' => Q .non H', rt := Q } (start N vs) H) :
    FnG P w K mg base CX (k + 1) f (PySem.W.fnOf x qual params body sc dV kV doc pm an cdv ct) ps sp where
  len := len
  run {A outer s H args us vs Q E} room e0 hb rv hsp := by
    have kept : ∀ b o, base.get? b = some o → s.heap.get? b = some o := fun b o e => (e0.bs b o e).1
    have kin := e0.mod.kin.keeps kept
    have nolim := e0.mod.nolimit.keeps kept
    have cells : ∀ z ∈ ps.zip us, sc.names.lookup z.1 = some .local ∨ (sc.names.lookup z.1 = some .cell ∧ ((cellsFrom (s.heap.objs.size + 1) sc.names []).lookup z.1).isSome = true) := by
      rintro ⟨n, v⟩ hz
      exact (S.par n (List.of_mem_zip hz).1).imp id fun q => ⟨q, PySem.W.cellsFrom_some _ _ _ (.inl q)⟩
    refine codeAny_call_function room.r.depth (kin _ _ lk) rfl S.co S.gen rfl (PySem.W.codeRec_of kin hcd) (hb _ _ _ _ (wpAny_newFunctionEnv_cells S.kind cells fun env he s1 x => ?_))
    subst he
    refine ⟨nolim.keeps x.toInCall.keep, codeAny_func ?_⟩
    obtain ⟨t, ht, hq⟩ := walk A outer s H vs Q E (room.deeper _) hsp
    refine wpAny_mono (ht.run [] s1 (start N vs) H _ (inv_start S room.r.hd e0 (len _ _ _ _ hsp) rv x) hq) (fun fl s' hs => ?_) fun _ _ z => z
    cases fl with
    | ret u => obtain ⟨v, σ', H', J, rv', q⟩ := hs; exact ⟨v, H', J.os, J.bare, J.base, J.hok, rv', q⟩
    | next => obtain ⟨σ', H', J, q⟩ := hs; exact ⟨.non, H', J.os, J.bare, J.base, J.hok, rfl, q⟩
    | brk => obtain ⟨_, _, _, q⟩ := hs; exact q.elim
    | cont => obtain ⟨_, _, _, q⟩ := hs; exact q.elim
end Sd

/-! SdG2: the law's call. -/
namespace Sd
open PySem PySem.Spec PyProof.Rows L2
section
variable {P : Program} {w : World} {K : PySem.W.Frag} {mg mb : Str → Option Value} {CX : CXT} {k : Nat} {fa a : Addr} {fd : FuncData} {x : Str} {sp : Sp} {s : Shared} {vs : List Value} {ns : List Int}
/-- the law called over a heap of which at most the script is told -/
theorem law_go {H : Hp} (kin0 : K.In s.heap) (hns : s.heap.Ns mainGlobals mg) (hb : s.heap.Ns builtinsNs mb) (hbb : ∀ x : Str, x ≠ "__name__" → mb x = bootBuiltins x) (hlim : s.heap.NoLimit) (hg : s.gens = #[])
    (ha : s.heap.get? a = some { cls := .type "list", data := .seq vs.toArray }) (room : RoomG k callerA) (F : ∀ base : Heap, K.In base → base.Ns mainGlobals mg → FnG P w K mg base CX k fa fd [x] sp) (bind : ∀ (s : Shared) (u : Value), BindsTo s fd ⟨[u], []⟩ [(x, u)])
    (hp : sp [.ref a] H (fun v _ => v = .bl true) fun _ _ _ => False) (hCX : ∀ H e s', CX [] H s (fun _ _ _ => False) e s' → False) (hok : HOk P w H s.heap) (only : ∀ b u, H b = some u → b = a ∧ ∃ o xs, u = .frz o (.lst xs)) (kno : ∀ u, H a = some u → K.lookup a = none) :
    codeAny (model P w) callerA (.call (.ref fa) ⟨[.ref a], []⟩) (fun r s' => r = .ok (.ret (.bool true)) ∧ OldK s.heap s'.heap ∧ s'.os = s.os ∧ AllBare s'.gens) s := by
  have away : ∀ {b}, b ≠ a → H b = none := fun {b} h => by
    cases e : H b with
    | none => rfl
    | some u => exact absurd (only b u e).1 h
  -- dicts and what the module keeps are not told
  have dictNo : ∀ {b : Addr} {o : Obj} {es : Array DictEntry} {n : Nat}, s.heap.get? b = some o → o.data = .dict es n → H b = none := fun {b o es n} e d => away fun z => by
    subst z
    rw [ha] at e
    cases e
    exact absurd (show Data.seq vs.toArray _ = Data.dict es n from d) (fun z => by cases z)
  have keepNs : ∀ {b : Addr} {m : Str → Option Value}, s.heap.Ns b m → (hidT s.heap H).Ns b m := fun ⟨o, es, n, e, d, r⟩ => ⟨o, es, n, hidT_get e (dictNo e d), d, r⟩
  have kinB : K.In (hidT s.heap H) := fun b o e => hidT_get (kin0 b o e) (by
    cases z : H b with
    | none => rfl
    | some u =>
      obtain ⟨rfl, _⟩ := only b u z
      rw [kno u z] at e
      cases e)
  have md : Mod K mg (hidT s.heap H) := by
    obtain ⟨mc, m1, m2⟩ := hlim
    exact ⟨kinB, keepNs hns, ⟨mb, keepNs hb, hbb⟩, mc, keepNs m1, m2⟩
  have env : Env0 P w K mg (hidT s.heap H) callerA [] s H := ⟨rfl, md, fun _ _ => of_hidT, Nat.le_of_eq (hidT_size _ _), trivial, fun b hb => absurd (show b ∈ ([] : List Addr) from hb) (by simp), hok, .of_eq hg⟩
  have call := (F _ kinB (keepNs hns)).run (us := [.ref a]) (vs := [.ref a]) room env (bind s (.ref a)) (.cons rfl .nil) hp
  refine codeAny_mono call fun r s' h => ?_
  match r, h with
  | .error e, h => exact absurd h (hCX H e s')
  | .ok .next, h => exact False.elim h
  | .ok .brk, h => exact False.elim h
  | .ok .cont, h => exact False.elim h
  | .ok (.ret u), ⟨v, H', os, bare, un, hok', rv, q⟩ =>
    have q : v = .bl true := q
    subst q
    have rv : u = Value.bool true := rv
    subst rv
    refine ⟨rfl, OldK.of_keep fun b o e => ?_, os, bare⟩
    cases z : H b with
    | none => exact un.keep b o e z (by simp [frs]) (by simp)
    | some t =>
      obtain ⟨_, ob, xs, rfl⟩ := only b t z
      have o1 := (hok b _ z).1
      have o2 := (hok' b _ (un.frzs b ob _ z)).1
      rw [e] at o1
      cases o1
      exact o2
theorem law_callG (kin0 : K.In s.heap) (hns : s.heap.Ns mainGlobals mg) (hb : s.heap.Ns builtinsNs mb) (hbb : ∀ x : Str, x ≠ "__name__" → mb x = bootBuiltins x) (hlim : s.heap.NoLimit) (hg : s.gens = #[])
    (ha : s.heap.get? a = some { cls := .type "list", data := .seq vs.toArray }) (hi : IntsAre vs ns) (hl : ns.length ≤ sizeLine) (room : RoomG k callerA) (F : ∀ base : Heap, K.In base → base.Ns mainGlobals mg → FnG P w K mg base CX k fa fd [x] sp) (bind : ∀ (s : Shared) (u : Value), BindsTo s fd ⟨[u], []⟩ [(x, u)])
    (hp : ∀ H : Hp, SqL K H a (ns.map V.int) → sp [.ref a] H (fun v _ => v = .bl true) fun _ _ _ => False) (hCX : ∀ H e s', CX [] H s (fun _ _ _ => False) e s' → False) :
    codeAny (model P w) callerA (.call (.ref fa) ⟨[.ref a], []⟩) (fun r s' => r = .ok (.ret (.bool true)) ∧ OldK s.heap s'.heap ∧ s'.os = s.os ∧ AllBare s'.gens) s := by
  have rv := vals_ints hi
  cases hk : K.lookup a with
  | some o =>
    have e := (kin0 a o hk).symm.trans ha
    cases e
    exact law_go (H := fun _ => none) kin0 hns hb hbb hlim hg ha room F bind (hp _ (.inr ⟨_, vs.toArray, _, hk, rfl, rfl, rfl, by rw [List.size_toArray, hi.length]; exact hl, by simpa using rv⟩)) hCX (fun b u z => by cases z) (fun b u z => by cases z) fun u z => by cases z
  | none =>
    have at_ : ∀ {b u}, (if b = a then some (HO.frz { cls := .type "list", data := .seq vs.toArray } (.lst (ns.map V.int))) else none) = some u → b = a ∧ u = .frz { cls := .type "list", data := .seq vs.toArray } (.lst (ns.map V.int)) := fun {b u} z => by
      split at z
      · rename_i e; cases z; exact ⟨e, rfl⟩
      · cases z
    refine law_go (H := fun b => if b = a then some (.frz { cls := .type "list", data := .seq vs.toArray } (.lst (ns.map V.int))) else none) kin0 hns hb hbb hlim hg ha room F bind (hp _ (.inl (.inr ⟨_, if_pos rfl⟩))) hCX (fun b u z => ?_) (fun b u z => ?_) fun _ _ => hk
    · obtain ⟨rfl, rfl⟩ := at_ z
      exact ⟨ha, by rw [List.length_map]; exact hl, vs, _, rv, ha⟩
    · obtain ⟨e, rfl⟩ := at_ z
      exact ⟨e, _, _, rfl⟩
end
theorem walk_ofG {l : PySem.W.OpenLaw} {n k : Nat} {q : Program} {loose : List Str} {XP : (Str → Option Value) → Heap → Prop} {YP : World → Heap → Prop} {d : DefRec} {K : Params → PySem.W.Frag} {CX : World → CXT} {sp : World → Sp} {x : Str}
    (hn : l.most = some n) (hn2 : n ≤ sizeLine) (hdf : d.params.defaults = []) (room : RoomG k callerA) (hY : ∀ (w : World) (h : Heap), YP w h → (K w.params).In h)
    (F : ∀ (w : World) (mg : Str → Option Value) (fa : Addr) (h : Heap), (K w.params).In h → h.Ns mainGlobals mg → mg d.name = some (.ref fa) → ∃ fd : FuncData, (∀ (s : Shared) (u : Value), BindsTo s fd ⟨[u], []⟩ [(x, u)]) ∧ ∀ base : Heap, (K w.params).In base → base.Ns mainGlobals mg → FnG l.prog w (K w.params) mg base (CX w) k fa fd [x] (sp w))
    (hp : ∀ (w : World) (H : Hp) (a : Addr) (ns : List Int), ns.length ≤ n → SqL (K w.params) H a (ns.map V.int) → sp w [.ref a] H (fun v _ => v = .bl true) fun _ _ _ => False) (hCX : ∀ (w : World) (H : Hp) (s : Shared) (e : Value) (s' : Shared), CX w [] H s (fun _ _ _ => False) e s' → False) :
    PySem.W.WalkO q loose XP YP l.row.toRowW d [] (fun f vs => PySem.call f vs) := by
  refine Att.attach_call hn hdf fun w s0 s1 mg mb fa o pm cd doc a vs ns G Y ho hd hcd hmg hobj hints hlen hg => ?_
  obtain ⟨fd, hb, hF⟩ := F w mg fa _ (hY w _ Y) G.T.g hmg
  exact law_callG (hY w _ Y) G.T.g G.T.b G.T.builtins G.T.nolimit hg hobj hints (Nat.le_trans hlen hn2) room hF hb (fun H hS => hp w H a ns hlen hS) fun H e s' => hCX w H s1 e s'
end Sd

/-! SdT: sorted() of a tuple of ints. -/
namespace Sd
open PySem PySem.Spec PyProof.Rows L2
section
variable {prog : Program} {w : World} {A : Around} {E : Value → Shared → Prop} {s : Shared}
theorem collect_tup {l : Addr} {vs : List Value} {Q : List Value → Shared → Prop} (hl : s.heap.IsTuple l vs.toArray)
    (h : Q vs { s with heap := (s.heap.push (seqObj "list" #[] 0)).update s.heap.objs.size (Obj.mapSeq (· ++ vs.toArray)) }) (hsz : vs.length ≤ sizeLine) :
    wpAny (model prog w) A (collect (.ref l)) Q E s := by
  obtain ⟨o, ho, hc, n, hd⟩ := id hl
  unfold collect
  refine wpAny_bind (wpAny_runValue (codeAny_builtin entry_proto_collect' ?_))
  show wpAny _ _ (do again (.builtin "list.__iadd__" ⟨[← newList [], .ref l], []⟩)) _ _ s
  refine wpAny_bind (wpAny_newList (wpAny_pure ⟨Code.quiet_builtin _ (by decide +kernel), codeAny_builtin entry_list_iadd' ?_⟩))
  show wpAny _ _ (Builtin.List.listExtendWith (.ref s.heap.objs.size) (.ref l) (.ref s.heap.objs.size)) _ _ { s with heap := s.heap.push (seqObj "list" #[] 0) }
  unfold Builtin.List.listExtendWith
  have ho' : (s.heap.push (seqObj "list" #[] 0)).get? l = some o := Heap.get?_push_of_some _ ho
  refine wpAny_bind (wpAny_typeOf (T := "tuple") ⟨o, ho', hc⟩ ?_)
  have ht : (Value.type "tuple" == Value.type "tuple") = true := by rfl
  rw [if_pos (by rw [ht]; simp)]
  refine wpAny_bind (listItems_at ho' hd ?_)
  refine wpAny_bind (listItems_at (xs := #[]) (n := 0) (Heap.get?_push_size _ rfl) rfl ?_)
  rw [if_neg (by simp)]
  refine wpAny_bind (listUpdate_at (xs := #[]) (n := 0) (Heap.get?_push_size _ rfl) rfl ?_ (Nat.zero_le _) (by show (#[] ++ vs.toArray).size ≤ sizeLine + 1; simp only [Array.size_append, List.size_toArray, List.length_nil]; omega))
  refine wpAny_pure ?_
  show wpAny (model prog w) A (do
      let o ← load s.heap.objs.size
      match o.data with
      | .seq xs _ => pure xs.toList
      | _ => unsupported "internal:collect") Q E { s with heap := (s.heap.push (seqObj "list" #[] 0)).update s.heap.objs.size (Obj.mapSeq (· ++ vs.toArray)) }
  refine wpAny_bind (wpAny_load (get?_update_seq (Heap.get?_push_size _ rfl) _) ?_)
  show wpAny _ _ (pure ((#[] : Array Value) ++ vs.toArray).toList) Q E _
  rw [show ((#[] : Array Value) ++ vs.toArray).toList = vs by simp]
  exact wpAny_pure h
open SrtO in
theorem sorted_tup {l : Addr} {vs : List Value} {ltv : Value → Value → Bool} {Q : Value → Shared → Prop} (O : Swo ltv) (hl : s.heap.IsTuple l vs.toArray) (hz : vs.length ≤ sizeLine)
    (hS : 2 ≤ vs.length → ∀ (h₁ : Heap) (a : Addr), h₁.get? a = some (seqObj "list" vs.toArray 0) → (∀ b o, s.heap.get? b = some o → b ≠ a ∧ h₁.get? b = some o) → SortableO prog w A.in1.in1 { s with heap := h₁ } a vs ltv)
    (h : ∀ out : List Value, Srtd ltv out → Stb ltv out vs → Q (.ref (s.heap.objs.size + 1)) { s with heap := sortedAll s.heap vs out.toArray }) :
    wpAny (model prog w) A (call (.builtin "sorted") [.ref l]) Q E s := by
  refine Calls.call_function_entry kind_sorted plain_sorted entry_sorted (args_sorted1 _) ?_
  unfold Builtin.«sorted»
  refine wpAny_bind (m := checkCount "sorted" 1 1 _) (wpAny_pure ?_)
  refine wpAny_bind (collect_tup hl ?_ hz)
  refine wpAny_bind (wpAny_newList ?_ hz)
  have hsz : ((s.heap.push (seqObj "list" #[] 0)).update s.heap.objs.size (Obj.mapSeq (· ++ vs.toArray))).objs.size = s.heap.objs.size + 1 := by
    rw [Heap.size_update, size_push']
  have hoL : (((s.heap.push (seqObj "list" #[] 0)).update s.heap.objs.size (Obj.mapSeq (· ++ vs.toArray))).push (seqObj "list" vs.toArray 0)).get? (s.heap.objs.size + 1) = some (seqObj "list" vs.toArray 0) := by
    rw [← hsz]; exact Heap.get?_push_size _ rfl
  have keep : ∀ b o, s.heap.get? b = some o → b ≠ s.heap.objs.size + 1 ∧ (((s.heap.push (seqObj "list" #[] 0)).update s.heap.objs.size (Obj.mapSeq (· ++ vs.toArray))).push (seqObj "list" vs.toArray 0)).get? b = some o := fun b o q => by
    have hlt : b < s.heap.objs.size := Heap.lt_size q
    refine ⟨Nat.ne_of_lt (Nat.lt_succ_of_lt hlt), Heap.get?_push_of_some _ ?_⟩
    rw [Heap.get?_update_ne _ _ _ _ (Nat.ne_of_lt hlt)]
    exact Heap.get?_push_of_some _ q
  show wpAny _ _ _ _ _ { s with heap := ((s.heap.push (seqObj "list" #[] 0)).update s.heap.objs.size (Obj.mapSeq (· ++ vs.toArray))).push (seqObj "list" vs.toArray 0) }
  rw [hsz]
  refine wpAny_bind (wpAny_holding (wpAny_call_entry slot_list_sort ⟨_, hoL, rfl⟩ entry_list_sort (list_sort_ord O hoL hz (fun h2 => hS h2 _ _ hoL keep) fun out hs hb => ⟨_, rfl, ?_⟩) (args_list_sort _)))
  exact wpAny_pure ⟨_, rfl, h out hs hb⟩
end
/-- sorted(t), a tuple of ints -/
def rSortedT (K : PySem.W.Frag) : List V → Hp → VK → Prop := fun vs H Q => ∃ (a : Addr) (ns : List Int), vs = [V.ref a] ∧ SqT K H a (ns.map V.int) ∧
  ∀ (ns' : List Int) (p : Addr), ns'.Perm ns → ns'.Pairwise (· ≤ ·) → H p = none → Q (.ref p) (upd H p (.lst (ns'.map V.int)))
section
variable {X : Cx}
theorem cr_sortedT : CallR X (.builtin "sorted") (rSortedT X.K) := by
  intro pins s σ H vs us Q I r h
  obtain ⟨a, ns, rfl, hs, q⟩ := h
  obtain ⟨its, rv, hl, hz⟩ := I.tuple hs
  rw [Vals.ref1 r]
  have hi := rv.ints
  refine sorted_tup SrtO.swo_int hl (by rw [← rv.length]; exact hz) (fun h2 h₁ a' _ _ => SrtO.ints_sortable hi h2) fun out h1 h2 => ?_
  obtain ⟨k1, k2, k3⟩ := SrtO.ints_out hi h1 h2
  obtain ⟨ep, he'⟩ := PyProof.Rows.sortedAll_at s.heap its out.toArray
  have hlen : ((out.map SrtO.iv).map V.int).length ≤ sizeLine := by
    rw [List.length_map, k2.length_eq]
    rw [List.length_map] at hz
    exact hz
  exact ⟨.ref _, upd H (s.heap.objs.size + 1) (.lst ((out.map SrtO.iv).map V.int)), I.laid (t' := s.toks) (fun _ _ => PyProof.Rows.sortedAll_old) (Nat.le_succ _) ⟨hlen, out, ep, vals_of_ints k1, he'⟩, rfl, q _ _ k2 k3 (I.hok.fresh (Nat.le_succ _))⟩
end
end Sd

/-! SdR: list(range(a, b, c)). -/
namespace Sd
open PySem PySem.Spec PyProof.Rows L2
section
variable {X : Cx}
def rg3 (i k : Int) (n : Nat) : List V := (List.range n).map fun t => V.int (i + (t : Nat) * k)
theorem vals_rg3 {i k : Int} {n : Nat} {acc : Array Value} (h : ItemsOf (fun t v => ∃ u, v = .int (i + t * k) u) acc n) : Vals (rg3 i k n) acc.toList := by
  have e : acc.toList.length = n := by rw [Array.length_toList]; exact h.1
  unfold rg3
  rw [← e]
  refine vals_of_get acc.toList _ fun j u hj => ?_
  obtain ⟨t, rfl⟩ := h.2 j u (by rw [← hj, Array.getElem?_toList])
  exact ⟨t, rfl⟩
def tLst3 (ta : TA) : TE := fun σ H Q => ta σ H fun vs H1 => ∃ (i j k : Int) (n : Nat), vs = [V.int i, V.int j, V.int k] ∧ (k ≠ 0 ∧ k.natAbs < 1073741824 ∧ Builtin.Range.small i j k = true ∧ Builtin.Range.rangeSize i j k = (n : Int) ∧ n ≤ 2 ^ 24) ∧ ∀ q, H1 q = none → Q (.ref q) (upd H1 q (.lst (rg3 i k n)))
theorem pe_lst3 {a b c : Expr} {ta : TA} {p pos p2 pos2 : Pos} (hc : X.calm = true) (hg : Gl X "list") (hm : X.mg "list" = none) (hg2 : Gl X "range") (hm2 : X.mg "range" = none) (ha : PA X [a, b, c] ta)
    (hs : starEach [a, b, c] X.env = (false, eval a X.env) :: starEach [b, c] X.env) (hpl : (backTo pos2 (starEach [b, c] X.env)).any (·.1) = false) :
    PE X (.Call (.Name "list" p) [.Call (.Name "range" p2) [a, b, c] [] pos2] [] pos) (tLst3 ta) := by
  refine ⟨fun pins s σ H Q I h => ?_⟩
  have na : starEach [Expr.Call (.Name "range" p2) [a, b, c] [] pos2] X.env = (false, eval (Expr.Call (.Name "range" p2) [a, b, c] [] pos2) X.env) :: starEach [] X.env := by rfl
  refine Call_ (ld_blt I hg hm boot_list (PyProof.Rows.callWith_type1 (args_cons (thn (Q := fun x s' => ∃ r i j k t u v n H1, x = .ref r ∧ IsRange s'.heap r i j k t u v ∧ Inv X pins σ H1 s' ∧ (k ≠ 0 ∧ k.natAbs < 1073741824 ∧ Builtin.Range.small i j k = true ∧ Builtin.Range.rangeSize i j k = ((n : Nat) : Int) ∧ n ≤ 2 ^ 24) ∧ ∀ q, H1 q = none → Q (.ref q) (upd H1 q (.lst (rg3 i k n)))) ?_ fun x s1 ⟨r, i, j, k, t, u, v, n, H1, ex, hr, I1, ok, q⟩ => args_nil ?_) na) na))
  · refine Call_ (ld_blt I hg2 hm2 boot_range (PyProof.Rows.callWith_type1 (thn (ha.run pos2 pins s σ H _ I h) fun us s1 ⟨vs, H1, I1, r1, q1⟩ => ?_) hs hpl))
    obtain ⟨i, j, k, n, e, ok, q⟩ := q1
    subst e
    cases r1 with
    | cons r rr =>
      cases rr with
      | cons r' rr =>
        cases rr with
        | cons r'' rr =>
          cases rr
          obtain ⟨t, rfl⟩ := r
          obtain ⟨t', rfl⟩ := r'
          obtain ⟨t'', rfl⟩ := r''
          exact call_range_3 ok.1 ⟨_, i, j, k, _, _, _, n, H1, rfl, IsRange.new _ _ _ _ _ _ _, I1.kept fun b u e => Heap.get?_push_of_some _ e, ok, q⟩ (.inl (PyProof.noPylong_small ok.2.1))
  · subst ex
    obtain ⟨b1, _, b2, b3, b4⟩ := ok
    refine call_list_range (n := n) (I1.ok.hd hc) hr b2 b3 b4 fun h' tk acc c' hk e' hi => ?_
    refine ⟨.ref s1.heap.objs.size, upd H1 s1.heap.objs.size (.lst (rg3 i k n)), I1.laid hk (Nat.le_refl _) (show ObjOk X.prog X.w _ _ _ (.lst (rg3 i k n)) from ⟨?_, acc.toList, c', vals_rg3 hi, ?_⟩), rfl, q _ (I1.hok.fresh (Nat.le_refl _))⟩
    · unfold rg3; rw [List.length_map, List.length_range, sizeLine_eq]; omega
    · rw [Array.toArray_toList]; exact e'
end
end Sd

/-! Sd0: plain data, the little language IL, its evaluator. -/
namespace Sd
open PySem PySem.Spec PyProof.Rows L2

/-! ### data -/
/-- a dict's key -/
inductive DK where
  | k (x : Key) | t (xs : List Key)
  deriving DecidableEq
/-- plain data: dicts by their keys and values, in order; the g-th stream of draws -/
inductive D where
  | non | bl (b : Bool) | int (i : Int) | str (x : Str)
  | lst (xs : List D) | tup (xs : List D)
  | dic (ks : List DK) (vs : List D)
  | stm (g : Nat)
  | obj (a : Addr)
  deriving Inhabited
/-- a stream of draws: cells left, the great one, how often, the mix -/
structure Stm where
  cells : List Int
  cur : Int
  cnt : Int
  mix : Int
  deriving Inhabited

mutual
/-- nothing in it can change -/
def imm : D → Bool
  | .non => true | .bl _ => true | .int _ => true | .str _ => true
  | .lst _ => false | .dic _ _ => false
  | .tup xs => imms xs
  | .stm _ => true
  | .obj _ => true
def imms : List D → Bool
  | [] => true
  | d :: ds => imm d && imms ds
end

/-! ### regions: from lo on, up to hi -/
structure Fl where
  lo : Nat
  hi : Nat
  deriving DecidableEq, Inhabited
def big : Nat := 1000000
def Fl.top : Fl := ⟨big, 0⟩
def Fl.join (a b : Fl) : Fl := ⟨min a.lo b.lo, max a.hi b.hi⟩
/-- the region at hand -/
def Fl.at (lv : Nat) : Fl := ⟨lv, lv⟩
def nrm (d : D) (f : Fl) : Fl := if imm d then Fl.top else f
def Fl.clamp (lv : Nat) (f : Fl) : Fl := if f.lo > f.hi then Fl.top else ⟨min f.lo lv, min f.hi lv⟩

/-! ### state -/
inductive Slot where
  | un
  | sh (f : Fl) (d : D)
  | ow (f : Fl) (d : D)
  deriving Inhabited
structure C where
  r : List Slot
  s : List Stm
  deriving Inhabited
/-- what an expression comes to: a value; a new list or dict that nothing else knows; the one that slot i owns -/
inductive R where
  | val (f : Fl) (d : D)
  | new (f : Fl) (d : D)
  | bor (i : Nat)
  deriving Inhabited
/-- an error: its class's name, what it is made with -/
structure Exn where
  cls : Str
  fl : Fl
  arg : D
  deriving Inhabited
inductive Out (α : Type) where
  | ok (a : α) (c : C)
  | exc (e : Exn) (c : C)
  | stuck
def Out.bind {α β : Type} (o : Out α) (f : α → C → Out β) : Out β :=
  match o with
  | .ok a c => f a c
  | .exc e c => .exc e c
  | .stuck => .stuck
inductive Fw where
  | nx (c : C)
  | rt (f : Fl) (d : D) (c : C)
  | exc (e : Exn) (c : C)
  | stuck

/-- a value of these data in the region f -/
def rv (f : Fl) (d : D) : R := .val (nrm d f) d
/-- what stands there now -/
def look (c : C) : R → Option (Fl × D)
  | .val f d => some (f, d)
  | .new f d => some (f, d)
  | .bor i => match c.r[i]? with
    | some (.ow f d) => some (f, d)
    | some (.sh f d) => some (f, d)
    | _ => none
/-- from now on it stays as it is -/
def frz (lv : Nat) (c : C) : R → Out (Fl × D)
  | .val f d => .ok (f, d) c
  | .new f d => .ok (f.join (.at lv), d) c
  | .bor i => match c.r[i]? with
    | some (.ow f d) => .ok (f.join (.at lv), d) { c with r := c.r.set i (.sh (f.join (.at lv)) d) }
    | some (.sh f d) => .ok (f, d) c
    | _ => .stuck
/-- an operand: a new thing is let be, an owned one stays owned -/
def opd (lv : Nat) (c : C) : R → Out R
  | .val f d => .ok (.val f d) c
  | .new f d => .ok (.val (f.join (.at lv)) d) c
  | .bor i => .ok (.bor i) c

/-! ### IL -/
inductive Op2 where
  | add | sub | mul | fdiv | mod | pow
  deriving DecidableEq
inductive Cm where
  | eq | ne | lt | le | gt | ge | inn | nin
  deriving DecidableEq
inductive Ty where
  | int | bool | list | tuple | dict | str
  deriving DecidableEq
inductive Bt where
  | abs | len | list | tuple | sum | max | min | all | any | sorted | int | repr | dict
  deriving DecidableEq
inductive Mt where
  | append | extend | pop
  deriving DecidableEq
mutual
inductive IE where
  | non | bl (b : Bool) | int (i : Int) | str (x : Str)
  | var (i : Nat)
  | op2 (o : Op2) (a b : IE)
  | neg (a : IE)
  | cmp (o : Cm) (a b : IE)
  | isN (a : IE) | notN (a : IE)
  | chn (o o' : Cm) (a b c : IE)
  | and (a b : IE) | or (a b : IE) | not (a : IE)
  | ite (c a b : IE)
  | lst (xs : List IE) | tup (xs : List IE)
  | star (a : IE)
  | ix (a i : IE)
  | slc (a : IE) (lo hi : List IE)
  | rev (a : IE)
  | call (f : Str) (as : List IE) (ks : List Str) (kas : List IE)
  | blt (b : Bt) (as : List IE)
  | isa (a : IE) (ts : List Ty)
  | mth (m : Mt) (i : Nat) (as : List IE)
  | lc (e : IE) (ts : List Nat) (one : Bool) (it : IT) (cs : List IE)
  | lrng (as : List IE)
  | never
/-- what a loop walks -/
inductive IT where
  | e (a : IE) | rng (as : List IE) | zip (a b : IE) | enm (a : IE) (st : List IE) | itm (a : IE)
end
instance : Inhabited IE := ⟨.never⟩
inductive IS where
  | expr (e : IE)
  | asg (i : Nat) (own : Bool) (e : IE)
  | asgT (ts : List Nat) (e : IE)
  | par (ts : List Nat) (es : List IE)
  | parO (ts : List Nat) (es : List (Bool × IE))
  | setIx (i : Nat) (ix e : IE)
  | ret (e : IE) | retN
  | ite (c : IE) (a b : List IS)
  | for (ts : List Nat) (one : Bool) (it : IT) (body : List IS)
  | while (c : IE) (body : List IS)
  | raise (cls : Str) (as : List IE)
  | pass
  | scope (body : List IS)
  | wipe (ws : List Nat)
  | spoil (e : IE)
  | never
  deriving Inhabited

/-! ### operations -/
def SZ : Nat := 16777216
/-- guards of ranges and of what is repeated: over Nat, so that the kernel does not unfold big numbers -/
def rOk (i : Int) : Bool := decide (i.natAbs ≤ SZ)
def dOk (a b : Int) : Bool := decide ((b - a).toNat ≤ SZ)
theorem rOk_iff {i : Int} : rOk i = true ↔ -(SZ : Int) ≤ i ∧ i ≤ SZ := by
  unfold rOk
  rw [decide_eq_true_iff]
  constructor
  · intro h; exact ⟨by omega, by omega⟩
  · intro h; omega
theorem dOk_iff {a b : Int} : dOk a b = true ↔ b - a ≤ SZ := by
  unfold dOk
  rw [decide_eq_true_iff]
  omega
def BIG : Nat := 2 ^ 20000
def mulOk (i j : Int) : Bool := decide (i.natAbs < BIG) && decide (j.natAbs < BIG)
def divOk (j : Int) : Bool := decide (0 < j) && decide (j.natAbs < 2 ^ 9000)
def powOk (i j : Int) : Bool := decide (0 ≤ j) && decide (j ≤ 1000) && decide (i.natAbs < 2 ^ 64)
/-- the outcome, and whether it is a new list -/
def bin : Op2 → D → D → Option (Bool × D)
  | .add, .int i, .int j => some (false, .int (i + j))
  | .sub, .int i, .int j => some (false, .int (i - j))
  | .mul, .int i, .int j => if mulOk i j then some (false, .int (i * j)) else none
  | .fdiv, .int i, .int j => if divOk j then some (false, .int (i / j)) else none
  | .mod, .int i, .int j => if divOk j then some (false, .int (i % j)) else none
  | .pow, .int i, .int j => if powOk i j then some (false, .int (i ^ j.toNat)) else none
  | .add, .lst xs, .lst ys => if xs.length + ys.length ≤ SZ then some (true, .lst (xs ++ ys)) else none
  | .add, .tup xs, .tup ys => if xs.length + ys.length ≤ SZ then some (false, .tup (xs ++ ys)) else none
  | .mul, .lst xs, .int k => if decide (0 ≤ k) && rOk k && decide (xs.length * k.toNat ≤ SZ) then some (true, .lst (List.replicate k.toNat xs).flatten) else none
  | _, _, _ => none
mutual
/-- == of data without dicts -/
def eqD : D → D → Bool
  | .non, .non => true
  | .bl a, .bl b => a == b
  | .bl a, .int j => (if a then 1 else 0) == j
  | .int i, .bl b => i == (if b then 1 else 0)
  | .int i, .int j => i == j
  | .str x, .str y => x == y
  | .lst xs, .lst ys => eqDs xs ys
  | .tup xs, .tup ys => eqDs xs ys
  | _, _ => false
def eqDs : List D → List D → Bool
  | [], [] => true
  | x :: xs, y :: ys => eqD x y && eqDs xs ys
  | _, _ => false
end
mutual
/-- data that == serves, so deep at most -/
def eqOk : Nat → D → Bool
  | 0, .lst _ => false
  | 0, .tup _ => false
  | n + 1, .lst xs => eqOks n xs
  | n + 1, .tup xs => eqOks n xs
  | _, .dic _ _ => false
  | _, .stm _ => false
  | _, .obj _ => false
  | _, .str x => PyData.strOk x
  | _, .non => true
  | _, .bl _ => true
  | _, .int _ => true
def eqOks : Nat → List D → Bool
  | _, [] => true
  | n, d :: ds => eqOk n d && eqOks n ds
end
mutual
/-- lists, tuples and flat things, so deep at most -/
def spOk : Nat → D → Bool
  | 0, .lst _ => false
  | 0, .tup _ => false
  | n + 1, .lst xs => spOks n xs
  | n + 1, .tup xs => spOks n xs
  | _, .dic _ _ => false
  | _, .stm _ => false
  | _, .obj _ => false
  | _, .non => true
  | _, .bl _ => true
  | _, .int _ => true
  | _, .str _ => true
def spOks : Nat → List D → Bool
  | _, [] => true
  | n, d :: ds => spOk n d && spOks n ds
end
mutual
/-- how many things it is made of -/
def nodes : D → Nat
  | .lst xs => 1 + nodess xs
  | .tup xs => 1 + nodess xs
  | _ => 1
def nodess : List D → Nat
  | [] => 0
  | d :: ds => nodes d + nodess ds
end
/-- nothing is told of its type -/
def opq : D → Bool
  | .stm _ => true | .obj _ => true
  | _ => false
mutual
def toPy : D → PyData
  | .non => .none
  | .bl b => .bool b
  | .int i => .int i
  | .str x => .str x
  | .lst xs => .list (toPys xs)
  | .tup xs => .tuple (toPys xs)
  | .dic _ _ => .none
  | .stm _ => .none
  | .obj _ => .none
def toPys : List D → List PyData
  | [] => []
  | d :: ds => toPy d :: toPys ds
end
mutual
/-- data whose text is made, so deep at most -/
def rpOk : Nat → D → Bool
  | 0, .lst _ => false
  | 0, .tup _ => false
  | n + 1, .lst xs => rpOks n xs
  | n + 1, .tup xs => rpOks n xs
  | _, .str x => PyData.strOk x
  | _, .non => true
  | _, .bl _ => true
  | _, .int i => decide (i.natAbs < 10 ^ 12)
  | _, .dic _ _ => false
  | _, .stm _ => false
  | _, .obj _ => false
def rpOks : Nat → List D → Bool
  | _, [] => true
  | n, d :: ds => rpOk n d && rpOks n ds
end
mutual
/-- how long a text it has -/
def wgt : D → Nat
  | .int _ => 40
  | .str x => x.cps.size
  | .lst xs => wgts xs
  | .tup xs => wgts xs
  | _ => 0
def wgts : List D → Nat
  | [] => 0
  | d :: ds => wgt d + 1 + wgts ds
end
def rpFit (d : D) : Bool := rpOk 60 d && decide (wgt d ≤ 1048576)
def scalD : D → Bool
  | .non => true | .bl _ => true | .int _ => true | .str _ => true
  | _ => false
def seqOf : D → Option (List D)
  | .lst xs => some xs
  | .tup xs => some xs
  | _ => none
def intsOf : List D → Option (List Int)
  | [] => some []
  | .int i :: r => (intsOf r).map (i :: ·)
  | _ => none
def blsOf : List D → Option (List Bool)
  | [] => some []
  | .bl b :: r => (blsOf r).map (b :: ·)
  | _ => none
/-- <= of tuples of numbers -/
def lexLe (ns ms : List Int) : Bool := Ob.lexAt (fun j => decide (ns.getD j 0 = ms.getD j 0)) (fun j => decide (ns.getD j 0 ≤ ms.getD j 0)) (decide (ns.length ≤ ms.length)) 0 (min ns.length ms.length)
def cmpD : Cm → D → D → Option Bool
  | .eq, x, y => if eqOk 60 x && eqOk 60 y then some (eqD x y) else none
  | .ne, x, y => if eqOk 60 x && eqOk 60 y then some (!eqD x y) else none
  | .lt, .int i, .int j => some (decide (i < j))
  | .lt, .tup xs, .tup ys => (intsOf xs).bind fun ns => (intsOf ys).map fun ms => HT.lexLt ns ms
  | .le, .tup xs, .tup ys => (intsOf xs).bind fun ns => (intsOf ys).map fun ms => lexLe ns ms
  | .le, .int i, .int j => some (decide (i ≤ j))
  | .gt, .int i, .int j => some (decide (j < i))
  | .ge, .int i, .int j => some (decide (j ≤ i))
  | .inn, x, .lst ys => if eqOk 60 x && eqOk 60 (.lst ys) then some (ys.any (eqD · x)) else none
  | .inn, x, .tup ys => if scalD x && ys.all scalD then some (ys.any (eqD · x)) else none
  | .nin, x, .lst ys => if eqOk 60 x && eqOk 60 (.lst ys) then some (!ys.any (eqD · x)) else none
  | .nin, x, .tup ys => if scalD x && ys.all scalD then some (!ys.any (eqD · x)) else none
  | _, _, _ => none
/-- truth -/
def tru : D → Option Bool
  | .non => some false
  | .bl b => some b
  | .int i => some (i != 0)
  | .str x => if x.length ≤ SZ then some (x.length != 0) else none
  | .lst xs => some (!xs.isEmpty)
  | .tup xs => some (!xs.isEmpty)
  | _ => none
def isTy : Ty → D → Bool
  | .int, .int _ => true
  | .int, .bl _ => true
  | .bool, .bl _ => true
  | .str, .str _ => true
  | .list, .lst _ => true
  | .tuple, .tup _ => true
  | .dict, .dic _ _ => true
  | _, _ => false
/-- an item, from behind too -/
def atD (xs : List D) (i : Int) : Option D := atI xs i
def ixD : D → D → Option D
  | .lst xs, .int i => atD xs i
  | .tup xs, .int i => atD xs i
  | _, _ => none
def cutD (xs : List D) (lo hi : Option Int) : List D := (xs.drop (HT.sIx xs.length 0 lo)).take (HT.sIx xs.length xs.length hi - HT.sIx xs.length 0 lo)
def maxI : List Int → Int
  | [] => 0
  | x :: xs => xs.foldl (fun m y => if y > m then y else m) x
def minI : List Int → Int
  | [] => 0
  | x :: xs => xs.foldl (fun m y => if y < m then y else m) x
def insI (x : Int) : List Int → List Int
  | [] => [x]
  | y :: r => if x ≤ y then x :: y :: r else y :: insI x r
def sortI : List Int → List Int
  | [] => []
  | x :: r => insI x (sortI r)
/-- a built-in's outcome: is it a new list? -/
def bltD : Bt → List D → Option (Bool × D)
  | .abs, [.int i] => some (false, .int (if i < 0 then -i else i))
  | .len, [.lst xs] => some (false, .int xs.length)
  | .len, [.tup xs] => some (false, .int xs.length)
  | .list, [.lst xs] => some (true, .lst xs)
  | .list, [.tup xs] => some (true, .lst xs)
  | .tuple, [.lst xs] => some (false, .tup xs)
  | .tuple, [.tup xs] => some (false, .tup xs)
  | .sum, [.lst xs] => (intsOf xs).map fun ns => (false, .int ns.sum)
  | .max, [.lst xs] => match intsOf xs with
    | some (n :: ns) => some (false, .int (maxI (n :: ns)))
    | _ => none
  | .min, [.lst xs] => match intsOf xs with
    | some (n :: ns) => some (false, .int (minI (n :: ns)))
    | _ => none
  | .max, [.int i, .int j] => some (false, .int (if j > i then j else i))
  | .min, [.int i, .int j] => some (false, .int (if j < i then j else i))
  | .all, [.lst xs] => (blsOf xs).map fun bs => (false, .bl (bs.all id))
  | .any, [.lst xs] => (blsOf xs).map fun bs => (false, .bl (bs.any id))
  | .sorted, [.lst xs] => (intsOf xs).map fun ns => (true, .lst ((sortI ns).map D.int))
  | .sorted, [.tup xs] => (intsOf xs).map fun ns => (true, .lst ((sortI ns).map D.int))
  | .repr, [.lst xs] => if rpFit (.lst xs) then some (false, .str (toPy (.lst xs)).shown) else none
  | .repr, [.tup xs] => if rpFit (.tup xs) then some (false, .str (toPy (.tup xs)).shown) else none
  | .int, [.int i] => some (false, .int i)
  | .int, [.bl b] => some (false, .int (if b then 1 else 0))
  | _, _ => none
/-- a method of a list: what it hands back, the list behind it -/
def mthD : Mt → List D → List D → Option (D × List D)
  | .append, xs, [d] => if xs.length < SZ then some (.non, xs ++ [d]) else none
  | .extend, xs, [.lst ys] => if xs.length + ys.length ≤ SZ then some (.non, xs ++ ys) else none
  | .pop, xs, [] => match xs[xs.length - 1]? with
    | some d => some (d, xs.dropLast)
    | none => none
  | .pop, xs, [.int k] => if k.natAbs ≤ SZ then match ixN xs.length k with
      | some j => match xs[j]? with
        | some d => some (d, xs.eraseIdx j)
        | none => none
      | none => none
    else none
  | _, _, _ => none
def isOwnL (c : C) (i : Nat) : Bool := match c.r[i]? with
  | some (.ow _ (.lst _)) => true
  | _ => false
def rngD : List D → Option (List D)
  | [.int n] => if rOk n then some ((List.range n.toNat).map fun (k : Nat) => D.int (k : Int)) else none
  | [.int a, .int b] => if rOk a && rOk b && dOk a b then some ((List.range (b - a).toNat).map fun (k : Nat) => D.int (a + (k : Int))) else none
  | [.int a, .int b, .int (-1)] => if rOk a && rOk b && dOk b a then some ((List.range (a - b).toNat).map fun (k : Nat) => D.int (a + (k : Int) * (-1))) else none
  | _ => none
/-- what list(range(..)) makes: with a step upwards too -/
def lrngD : List D → Option (List D)
  | [.int a, .int b, .int c] => if decide (c ≠ 0) && decide (c.natAbs ≤ 1000) && Builtin.Range.small a b c && decide (0 ≤ Builtin.Range.rangeSize a b c) && decide ((Builtin.Range.rangeSize a b c).toNat ≤ SZ) then some ((List.range (Builtin.Range.rangeSize a b c).toNat).map fun (k : Nat) => D.int (a + (k : Int) * c)) else none
  | ds => rngD ds
def zipD : List D → List D → List D
  | x :: xs, y :: ys => .tup [x, y] :: zipD xs ys
  | _, _ => []
def enmD (k : Int) : List D → List D
  | [] => []
  | x :: xs => .tup [.int k, x] :: enmD (k + 1) xs

/-! ### evaluation -/
/-- a def's call: its arguments by the parameters, the streams -/
abbrev Caller := Str → List D → List Stm → Option (Fl × D × List Stm ⊕ Exn × List Stm)
/-- each def's parameters -/
abbrev Sig := Str → List Str
def wipeR (r : List Slot) : List Nat → List Slot
  | [] => r
  | v :: vs => (wipeR r vs).set v .un
/-- the slots is as they stand in r0 -/
def backR (r0 r : List Slot) : List Nat → List Slot
  | [] => r
  | v :: vs => match r0[v]? with
    | some (.sh f d) => (backR r0 r vs).set v (.sh f d)
    | _ => (backR r0 r vs).set v .un
/-- several targets -/
def setTs (f : Fl) : List Nat → List D → List Slot → Option (List Slot)
  | [], [], r => some r
  | t :: ts, d :: ds, r => setTs f ts ds (r.set t (.sh (nrm d f) d))
  | _, _, _ => none
/-- the loop's targets -/
def setTg (f : Fl) (ts : List Nat) (one : Bool) (d : D) (r : List Slot) : Option (List Slot) :=
  if one then setTs f ts [d] r else
    match d with
    | .tup xs => setTs f ts xs r
    | .lst xs => setTs f ts xs r
    | _ => none
/-- keywords into the parameters' order -/
def byName (ps : List Str) (as : List D) (ks : List Str) (kas : List D) : Option (List D) :=
  if permOk ps ks as.length kas.length then some (perm .non ps ks as kas) else none
/-- freeze some -/
def frzs (lv : Nat) : List R → C → Out (Fl × List D)
  | [], c => .ok (Fl.top, []) c
  | r :: rs, c => (frz lv c r).bind fun (f, d) c => (frzs lv rs c).bind fun (g, ds) c => .ok (f.join g, d :: ds) c
/-- look at some -/
def looks (c : C) : List R → Option (Fl × List D)
  | [] => some (Fl.top, [])
  | r :: rs => match look c r, looks c rs with
    | some (f, d), some (g, ds) => some (f.join g, d :: ds)
    | _, _ => none
/-- what comes back from a def: alone, or with what was passed -/
def backF (lv : Nat) (fl : Fl) (d : D) (ra rk : List R) (c : C) (k : Fl → C → Out R) : Out R :=
  if imm d || decide (1 ≤ fl.lo) then k (.at lv) c
  else (frzs lv ra c).bind fun (g, _) c => (frzs lv rk c).bind fun (h, _) c => k ((g.join h).join (.at lv)) c
/-- a loop of a comprehension -/
def lcGo (own : List Nat) (one : Fl × D → C → Out (Option (Fl × D))) (f : Fl) : List D → C → Out (Fl × List D)
  | [], c => .ok (Fl.top, []) c
  | x :: xs, c => (one (f, x) { c with r := wipeR c.r own }).bind fun o c => (lcGo own one f xs c).bind fun (g, ds) c =>
    match o with
    | some (h, d) => .ok ((nrm d h).join g, d :: ds) c
    | none => .ok (g, ds) c
/-- no error comes of it -/
def Out.noX {α : Type} (o : Out α) : Out α := match o with
  | .ok a c => .ok a c
  | _ => .stuck
/-- turns of a for -/
def forGo (one : D → C → Fw) : List D → C → Fw
  | [], c => .nx c
  | x :: xs, c => match one x c with
    | .nx c => forGo one xs c
    | o => o
/-- turns of a while -/
def whlGo (test : C → Out Bool) (body : C → Fw) : Nat → C → Fw
  | 0, _ => .stuck
  | n + 1, c => match test c with
    | .ok true c => match body c with
      | .nx c => whlGo test body n c
      | o => o
    | .ok false c => .nx c
    | .exc e c => .exc e c
    | .stuck => .stuck
/-- an operand -/
def Out.o (lv : Nat) (o : Out R) : Out R := o.bind fun r c => opd lv c r
/-- frozen -/
def Out.z (lv : Nat) (o : Out R) : Out (Fl × D) := o.bind fun r c => frz lv c r
def ofOpt {α : Type} (o : Option α) (c : C) : Out α := match o with
  | some a => .ok a c
  | none => .stuck
/-- a test -/
def Out.t (lv : Nat) (o : Out R) : Out Bool := (o.o lv).bind fun r c => match look c r with
  | some (_, d) => ofOpt (tru d) c
  | none => .stuck
/-- the outcome of an operation on data -/
def res (lv : Nat) (f : Fl) (o : Option (Bool × D)) (c : C) : Out R := match o with
  | some (true, d) => .ok (.new f d) c
  | some (false, d) => .ok (rv (f.join (.at lv)) d) c
  | none => .stuck
def fuel : Nat := 18446744073709551616

section
variable (cl : Caller) (sg : Sig)
mutual
def evE (lv : Nat) : IE → C → Out R
  | .non, c => .ok (rv Fl.top .non) c
  | .bl b, c => .ok (rv Fl.top (.bl b)) c
  | .int i, c => .ok (rv Fl.top (.int i)) c
  | .str x, c => .ok (rv Fl.top (.str x)) c
  | .var i, c => match c.r[i]? with
    | some (.sh f d) => .ok (.val f d) c
    | some (.ow _ _) => .ok (.bor i) c
    | _ => .stuck
  | .op2 o a b, c => ((evE lv a c).o lv).bind fun ra c => ((evE lv b c).o lv).bind fun rb c =>
    match look c ra, look c rb with
    | some (f, x), some (g, y) => res lv (f.join g) (bin o x y) c
    | _, _ => .stuck
  | .neg a, c => ((evE lv a c).o lv).bind fun ra c => match look c ra with
    | some (_, .int i) => .ok (rv Fl.top (.int (-i))) c
    | _ => .stuck
  | .cmp o a b, c => ((evE lv a c).o lv).bind fun ra c => ((evE lv b c).o lv).bind fun rb c =>
    match look c ra, look c rb with
    | some (_, x), some (_, y) => (ofOpt (cmpD o x y) c).bind fun k c => .ok (rv Fl.top (.bl k)) c
    | _, _ => .stuck
  | .isN a, c => ((evE lv a c).o lv).bind fun ra c => match look c ra with
    | some (_, .non) => .ok (rv Fl.top (.bl true)) c
    | some (_, _) => .ok (rv Fl.top (.bl false)) c
    | none => .stuck
  | .notN a, c => ((evE lv a c).o lv).bind fun ra c => match look c ra with
    | some (_, .non) => .ok (rv Fl.top (.bl false)) c
    | some (_, _) => .ok (rv Fl.top (.bl true)) c
    | none => .stuck
  | .chn o o' a b d, c => ((evE lv a c).o lv).bind fun ra c => ((evE lv b c).o lv).bind fun rb c =>
    match look c ra, look c rb with
    | some (_, x), some (_, y) => (ofOpt (cmpD o x y) c).bind fun k c =>
      if k then ((evE lv d c).o lv).bind fun rd c => match look c rb, look c rd with
        | some (_, y), some (_, z) => (ofOpt (cmpD o' y z) c).bind fun k c => .ok (rv Fl.top (.bl k)) c
        | _, _ => .stuck
      else .ok (rv Fl.top (.bl false)) c
    | _, _ => .stuck
  | .and a b, c => ((evE lv a c).o lv).bind fun ra c => match look c ra with
    | some (_, .bl true) => evE lv b c
    | some (_, .bl false) => .ok (rv Fl.top (.bl false)) c
    | _ => .stuck
  | .or a b, c => ((evE lv a c).o lv).bind fun ra c => match look c ra with
    | some (_, .bl false) => evE lv b c
    | some (_, .bl true) => .ok (rv Fl.top (.bl true)) c
    | _ => .stuck
  | .not a, c => ((evE lv a c).t lv).bind fun k c => .ok (rv Fl.top (.bl (!k))) c
  | .ite t a b, c => ((evE lv t c).t lv).bind fun k c => if k then evE lv a c else evE lv b c
  | .lst xs, c => (evS lv xs c).bind fun (f, ds) c => if ds.length ≤ SZ then .ok (.new f (.lst ds)) c else .stuck
  | .tup xs, c => (evF lv xs c).bind fun (f, ds) c => if ds.length ≤ SZ then .ok (rv (f.join (.at lv)) (.tup ds)) c else .stuck
  | .star _, _ => .stuck
  | .ix a i, c => ((evE lv a c).o lv).bind fun ra c => ((evE lv i c).o lv).bind fun ri c =>
    match look c ra, look c ri with
    | some (f, x), some (_, y) => (ofOpt (ixD x y) c).bind fun d c => .ok (rv f d) c
    | _, _ => .stuck
  | .slc a lo hi, c => ((evE lv a c).o lv).bind fun ra c => (evP lv lo c).bind fun l c => (evP lv hi c).bind fun h c =>
    match look c ra with
    | some (f, .lst xs) => .ok (.new f (.lst (cutD xs l h))) c
    | some (f, .tup xs) => .ok (rv (f.join (.at lv)) (.tup (cutD xs l h))) c
    | _ => .stuck
  | .rev a, c => ((evE lv a c).o lv).bind fun ra c => match look c ra with
    | some (f, .lst xs) => .ok (.new f (.lst xs.reverse)) c
    | _ => .stuck
  | .call f as ks kas, c => (evA lv as c).bind fun ra c => (evA lv kas c).bind fun rk c =>
    match looks c ra, looks c rk with
    | some (g, ds), some (h, dk) => match byName (sg f) ds ks dk with
      | some args => match cl f args c.s with
        | some (.inl (fl, d, s)) => backF lv fl d ra rk c fun f c => .ok (rv f d) { c with s := s }
        | some (.inr (e, s)) => backF lv e.fl e.arg ra rk c fun f c => .exc { e with fl := f } { c with s := s }
        | none => .stuck
      | none => .stuck
    | _, _ => .stuck
  | .blt b as, c => (evA lv as c).bind fun ra c => match looks c ra with
    | some (f, ds) => res lv f (bltD b ds) c
    | none => .stuck
  | .isa a ts, c => ((evE lv a c).o lv).bind fun ra c => match look c ra with
    | some (_, .stm _) => .stuck
    | some (_, .obj _) => .stuck
    | some (_, d) => .ok (rv Fl.top (.bl (ts.any fun t => isTy t d))) c
    | none => .stuck
  | .mth m i as, c => if isOwnL c i then (evF lv as c).bind fun (g, ds) c => match c.r[i]? with
    | some (.ow f (.lst xs)) => match mthD m xs ds with
      | some (d, ys) => .ok (rv (f.join g) d) { c with r := c.r.set i (.ow (f.join g) (.lst ys)) }
      | none => .stuck
    | _ => .stuck
    else .stuck
  | .lc e ts one it cs, c => (evIt lv it c).bind fun (f, xs) c0 => if xs.length ≤ SZ then
      (lcGo ts (fun (f, x) c => (ofOpt (setTg f ts one x c.r) c).bind fun r c =>
        (evCs lv cs { c with r := r }).bind fun k c => if k then ((evE lv e c).z lv).bind fun fd c => .ok (some fd) c else .ok none c) f xs c0).noX.bind fun (g, ds) c =>
        .ok (.new g (.lst ds)) { c with r := backR c0.r (wipeR c.r ts) ts }
    else .stuck
  | .lrng as, c => (evF lv as c).bind fun (_, ds) c => (ofOpt (lrngD ds) c).bind fun xs c => .ok (.new Fl.top (.lst xs)) c
  | .never, _ => .stuck
/-- the tests of a comprehension -/
def evCs (lv : Nat) : List IE → C → Out Bool
  | [], c => .ok true c
  | e :: es, c => ((evE lv e c).t lv).bind fun k c => if k then evCs lv es c else .ok false c
/-- arguments: operands -/
def evA (lv : Nat) : List IE → C → Out (List R)
  | [], c => .ok [] c
  | e :: es, c => ((evE lv e c).o lv).bind fun r c => (evA lv es c).bind fun rs c => .ok (r :: rs) c
/-- things that are put into another: frozen -/
def evF (lv : Nat) : List IE → C → Out (Fl × List D)
  | [], c => .ok (Fl.top, []) c
  | e :: es, c => ((evE lv e c).z lv).bind fun (f, d) c => (evF lv es c).bind fun (g, ds) c => .ok ((nrm d f).join g, d :: ds) c
/-- a display's items, some with a star -/
def evS (lv : Nat) : List IE → C → Out (Fl × List D)
  | [], c => .ok (Fl.top, []) c
  | .star e :: es, c => ((evE lv e c).o lv).bind fun r c => match look c r with
    | some (f, d) => match seqOf d with
      | some xs => (evS lv es c).bind fun (g, ds) c => .ok (f.join g, xs ++ ds) c
      | none => .stuck
    | none => .stuck
  | e :: es, c => ((evE lv e c).z lv).bind fun (f, d) c => (evS lv es c).bind fun (g, ds) c => .ok ((nrm d f).join g, d :: ds) c
/-- a slice's part -/
def evP (lv : Nat) : List IE → C → Out (Option Int)
  | [], c => .ok none c
  | e :: _, c => ((evE lv e c).o lv).bind fun r c => match look c r with
    | some (_, .int i) => .ok (some i) c
    | _ => .stuck
/-- what a loop walks: the region, the items -/
def evIt (lv : Nat) : IT → C → Out (Fl × List D)
  | .rng as, c => (evF lv as c).bind fun (_, ds) c => (ofOpt (rngD ds) c).bind fun xs c => .ok (Fl.top, xs) c
  | .zip a b, c => ((evE lv a c).z lv).bind fun (f, x) c => ((evE lv b c).z lv).bind fun (g, y) c =>
    match seqOf x, seqOf y with
    | some xs, some ys => .ok (f.join g, zipD xs ys) c
    | _, _ => .stuck
  | .enm a st, c => ((evE lv a c).z lv).bind fun (f, x) c => (evP lv st c).bind fun k c =>
    if rOk (k.getD 0) then match seqOf x with
    | some xs => .ok (f, enmD (k.getD 0) xs) c
    | none => .stuck
    else .stuck
  | .e a, c => ((evE lv a c).z lv).bind fun (f, d) c => (ofOpt (seqOf d) c).bind fun xs c => .ok (f, xs) c
  | .itm _, _ => .stuck
end
end
/-! ### statements -/
def clampS (lv : Nat) : Slot → Slot
  | .un => .un
  | .sh f d => .sh (f.clamp lv) d
  | .ow f d => .ow (f.clamp lv) d
def clampC (lv : Nat) (c : C) : C := { c with r := c.r.map (clampS lv) }
def clampW (lv : Nat) : Fw → Fw
  | .nx c => .nx (clampC lv c)
  | .rt f d c => .rt (f.clamp lv) d (clampC lv c)
  | .exc e c => .exc { e with fl := e.fl.clamp lv } (clampC lv c)
  | .stuck => .stuck
/-- whether a region holds anything of the level lv -/
def Fl.hit (lv : Nat) (f : Fl) : Bool := decide (f.lo ≤ f.hi) && decide (lv ≤ f.hi)
def spoilS (lv : Nat) : Slot → Slot
  | .un => .un
  | .sh f d => if f.hit lv then .un else .sh f d
  | .ow f d => if f.hit lv then .un else .ow f d
def Out.w {α : Type} (o : Out α) (k : α → C → Fw) : Fw := match o with
  | .ok a c => k a c
  | .exc e c => .exc e c
  | .stuck => .stuck
def Fw.then (o : Fw) (k : C → Fw) : Fw := match o with
  | .nx c => k c
  | o => o
/-- a name is given a value -/
def asgS (lv : Nat) (i : Nat) (own : Bool) (r : R) (c : C) : Fw :=
  match own, r with
  | true, .new f d => .nx { c with r := c.r.set i (.ow f d) }
  | _, r => (frz lv c r).w fun (f, d) c => .nx { c with r := c.r.set i (.sh (nrm d f) d) }
/-- several targets, new things among what they are given -/
def setRs : List Nat → List R → List Slot → Option (List Slot)
  | [], [], r => some r
  | t :: ts, .val f d :: rs, r => setRs ts rs (r.set t (.sh f d))
  | t :: ts, .new f d :: rs, r => setRs ts rs (r.set t (.ow f d))
  | _, _, _ => none
section
variable (cl : Caller) (sg : Sig)
/-- values, some of them new things that stay so -/
def evN (lv : Nat) : List (Bool × IE) → C → Out (List R)
  | [], c => .ok [] c
  | (o, e) :: es, c => (evE cl sg lv e c).bind fun r c => match o, r with
    | true, .new f d => (evN lv es c).bind fun rs c => .ok (.new f d :: rs) c
    | _, r => (frz lv c r).bind fun (f, d) c => (evN lv es c).bind fun rs c => .ok (.val (nrm d f) d :: rs) c
mutual
def exS (lv : Nat) (sp : Bool) : IS → C → Fw
  | .expr e, c => (evE cl sg lv e c).w fun _ c => .nx c
  | .asg i own e, c => (evE cl sg lv e c).w fun r c => asgS lv i own r c
  | .asgT ts e, c => ((evE cl sg lv e c).z lv).w fun (f, d) c => (ofOpt ((seqOf d).bind fun xs => setTs f ts xs c.r) c).w fun r c => .nx { c with r := r }
  | .par ts es, c => (evF cl sg lv es c).w fun (f, ds) c => (ofOpt (setTs f ts ds c.r) c).w fun r c => .nx { c with r := r }
  | .parO ts es, c => (evN cl sg lv es c).w fun rs c => (ofOpt (setRs ts rs c.r) c).w fun r c => .nx { c with r := r }
  | .setIx i ix e, c => ((evE cl sg lv e c).z lv).w fun (g, d) c => if isOwnL c i then ((evE cl sg lv ix c).z lv).w fun (_, k) c =>
    match c.r[i]?, k with
    | some (.ow f (.lst xs)), .int k => match ixN xs.length k with
      | some j => .nx { c with r := c.r.set i (.ow (f.join (nrm d g)) (.lst (xs.set j d))) }
      | none => .stuck
    | _, _ => .stuck
    else .stuck
  | .ret e, c => ((evE cl sg lv e c).z lv).w fun (f, d) c => .rt (nrm d f) d c
  | .retN, c => .rt Fl.top .non c
  | .ite t a b, c => ((evE cl sg lv t c).t lv).w fun k c => if k then exL lv sp a c else exL lv sp b c
  | .for ts one it body, c => (evIt cl sg lv it c).w fun (f, xs) c =>
    forGo (fun x c => (ofOpt (setTg f ts one x c.r) c).w fun r c => exL lv false body { c with r := r }) xs c
  | .while t body, c => whlGo (fun c => (evE cl sg lv t c).t lv) (fun c => exL lv false body c) fuel c
  | .raise x as, c => (evF cl sg lv as c).w fun (f, ds) c => match ds with
    | [d] => .exc ⟨x, nrm d f, d⟩ c
    | _ => .stuck
  | .pass, c => .nx c
  | .wipe ws, c => .nx { c with r := wipeR c.r ws }
  | .scope body, c => clampW lv (exL (lv + 1) true body c)
  | .spoil e, c => if sp then ((evE cl sg lv e c).z lv).w fun (f, d) c =>
      if decide (lv ≤ f.lo) && spOk 20 d && decide (2 * nodes d ≤ SZ) then .nx { c with r := c.r.map (spoilS lv) } else .stuck
    else .stuck
  | .never, _ => .stuck
def exL (lv : Nat) (sp : Bool) : List IS → C → Fw
  | [], c => .nx c
  | s :: ss, c => (exS lv sp s c).then fun c => exL lv sp ss c
end
end

/-! ### streams -/
def drawGo : List Int → Int → Int → List Int × Int × Int
  | [], cur, mix => ([], cur, mix)
  | x :: xs, cur, mix => if cur = 0 then
      drawGo xs (if (x.natAbs : Int) ≥ 1000000000000000000 then (x.natAbs : Int) else 0) ((mix * 6151 + (x.natAbs : Int) + 7) % 2147483629)
    else (x :: xs, cur, mix)
def cntMax : Int := 281474976710656
/-- the next draw below many -/
def draw (t : Stm) (many : Int) : Option (Int × Stm) :=
  if 0 < many ∧ many < 1000000000 ∧ 0 ≤ t.cnt ∧ t.cnt < cntMax ∧ 0 ≤ t.mix ∧ t.mix < 2147483629 then
    match drawGo t.cells t.cur t.mix with
    | (cs, cur, mix) =>
      if cur > 0 then some (cur % many, ⟨cs, cur / many, t.cnt + 1, mix⟩)
      else some (((((mix + 8191 * (t.cnt + 1) + 50021) ^ 5) % 2147483587 * 40009 + 20011 * (t.cnt + 1) + 31) ^ 3) % 1000000009 % many, ⟨cs, cur, t.cnt + 1, mix⟩)
  else none
def nStream : Str := "_law_stream"
def nDraw : Str := "_law_draw"
def nSpoilt : Str := "_law_spoilt"

/-! ### defs -/
structure Fd where
  ps : List Str
  N : List Str
  body : List IS
  deriving Inhabited
abbrev Pg := List (Str × Fd)
def sgOf (P : Pg) : Sig := fun f => match P.lookup f with
  | some fd => fd.ps
  | none => if f = nDraw then ["stream", "many"] else if f = nStream then ["script"] else []
def prim (f : Str) (as : List D) (s : List Stm) : Option (Fl × D × List Stm ⊕ Exn × List Stm) :=
  if f = nDraw then match as with
    | [.stm g, .int many] => match s[g]? with
      | some t => (draw t many).map fun (i, t') => .inl (Fl.top, .int i, s.set g t')
      | none => none
    | _ => none
  else if f = nStream then match as with
    | [.lst xs] => (intsOf xs).map fun ns => .inl (Fl.top, .stm s.length, s ++ [⟨ns, 0, 0, 19⟩])
    | _ => none
  else none
def startR (fd : Fd) (as : List D) : List Slot := as.map (fun d => .sh (nrm d ⟨0, 0⟩) d) ++ List.replicate (fd.N.length - as.length) .un
def endW : Fw → Option (Fl × D × List Stm ⊕ Exn × List Stm)
  | .nx c => some (.inl (Fl.top, .non, c.s))
  | .rt f d c => some (.inl (f, d, c.s))
  | .exc e c => some (.inr (e, c.s))
  | .stuck => none
def callF (P : Pg) : Nat → Caller
  | 0, _, _, _ => none
  | n + 1, f, as, s => match P.lookup f with
    | some fd => if as.length = fd.ps.length then endW (exL (callF P n) (sgOf P) 1 false fd.body ⟨startR fd as, s⟩) else none
    | none => prim f as s
end Sd

/-! Sd1: from the program's text to IL. -/
namespace Sd
open PySem PySem.Spec PyProof.Rows L2

/-- what is known of a def beside its text: its names, the ones whose lists change, the rows where a region begins, which names are not wanted any more behind a turn of the loop in a row -/
structure Ann where
  N : List Str
  M : List Str
  sc : List Nat
  wp : List (Nat × List Nat)
  deriving Inhabited
/-- a loop's block, at whose end some names are forgotten -/
def wpB (a : Ann) (l : Nat) (is : List IS) : List IS := match a.wp.lookup l with
  | some ws => is ++ [.wipe ws]
  | none => is
def isLoc (sc : Scope) (x : Str) : Bool := !decide (x = "__debug__") && !decide (x = "__classdict__") && match sc.names.lookup x with
  | some .local => true | some .cell => true | some .free => true | _ => false
def isGlb (sc : Scope) (x : Str) : Bool := match sc.names.lookup x with
  | some .globalImplicit => true | _ => false
def isSto (sc : Scope) (x : Str) : Bool := match sc.names.lookup x with
  | some .local => true | some .cell => true | _ => false
def slotOf (N : List Str) (x : Str) : Option Nat := N.findIdx? (fun y => decide (y = x))
def op2Of : Operator → Option Op2
  | .Add => some .add | .Sub => some .sub | .Mult => some .mul | .FloorDiv => some .fdiv | .Mod => some .mod | .Pow => some .pow | _ => none
def cmOf : CmpOp → Option Cm
  | .Eq => some .eq | .NotEq => some .ne | .Lt => some .lt | .LtE => some .le | .Gt => some .gt | .GtE => some .ge | .In => some .inn | .NotIn => some .nin | _ => none
def btOf (x : Str) (n : Nat) : Option Bt :=
  if n = 1 then
    if x = "abs" then some .abs else if x = "len" then some .len else if x = "list" then some .list else if x = "tuple" then some .tuple else if x = "sum" then some .sum
    else if x = "max" then some .max else if x = "min" then some .min else if x = "all" then some .all else if x = "any" then some .any else if x = "sorted" then some .sorted
    else if x = "int" then some .int else if x = "repr" then some .repr else if x = "dict" then some .dict else none
  else if n = 2 then if x = "max" then some .max else if x = "min" then some .min else none
  else none
def tyOf (x : Str) : Option Ty :=
  if x = "int" then some .int else if x = "bool" then some .bool else if x = "list" then some .list else if x = "tuple" then some .tuple
  else if x = "dict" then some .dict else if x = "str" then some .str else none
def tyN (sc : Scope) : Expr → Option Ty
  | .Name x _ => if isGlb sc x then tyOf x else none
  | _ => none
def tysOf (sc : Scope) : Expr → Option (List Ty)
  | .Tuple es _ _ => (es.mapM (tyN sc)).bind fun ts => if ts.length ≤ 9 then some ts else none
  | e => (tyN sc e).map fun t => [t]
def isStar : Expr → Bool
  | .Starred .. => true
  | _ => false
def isSlc : Expr → Bool
  | .Slice .. => true
  | _ => false
def isSet : Expr → Bool
  | .Set .. => true
  | _ => false
def nameOf : Expr → Option Str
  | .Name x _ => some x
  | _ => none
def tgN (sc : Scope) (N : List Str) : Expr → Option Nat
  | .Name x _ => if isSto sc x then slotOf N x else none
  | _ => none
/-- names as targets: their slots -/
def tgOf (sc : Scope) (N : List Str) : Expr → Option (List Nat × Bool)
  | .Name x _ => if isSto sc x then (slotOf N x).map fun i => ([i], true) else none
  | .Tuple es _ _ => (es.mapM (tgN sc N)).map fun is => (is, false)
  | _ => none
def kwNames (ks : List Keyword) : Option (List Str) := ks.mapM fun k => k.arg
def strOf : Expr → Option Str
  | .Constant (.str x) _ _ => some x
  | _ => none
/-- are the names of a pair (of three) stored from the right? -/
def swapN (sc : Scope) (ts vs : List Expr) : Option (Option (List Str)) :=
  if !(ts.length == 2 || ts.length == 3) || vs.length != ts.length then some none
  else if vs.any isStar then some none
  else
    let line := (ts.head?.map (·.pos.line)).getD 0
    let names := ts.filterMap fun
      | .Name id pos => if sc.names.lookup id == some .local && pos.line == line then some id else none
      | _ => none
    if names.length != ts.length || names.eraseDups.length != names.length then some none
    else if vs.all (foldedForSure 8) then some none
    else if vs.all (constantsAlone 8) then none
    else some (some names)
def elts : Expr → List Expr
  | .Tuple es _ _ => es
  | _ => []
def isComp : Expr → Bool
  | .ListComp .. => true | .SetComp .. => true | .DictComp .. => true
  | _ => false
def locN (sc : Scope) (x : Str) : Bool := match sc.names.lookup x with
  | some .local => true
  | _ => false
/-- a, b = x, y: served? -/
def parOk (sc : Scope) (N : List Str) (ts vs : List Expr) : Bool := match swapN sc ts vs with
  | some none => decide (ts.length ≤ 9)
  | some (some ns) => (match ts with
    | [.Name x _, .Name y _] => decide (ns = [x, y]) && locN sc x && locN sc y && !decide (x = y)
    | [.Name x _, .Name y _, .Name z _] => decide (ns = [x, y, z]) && locN sc x && locN sc y && locN sc z && !decide (x = y) && !decide (x = z) && !decide (y = z)
    | _ => false) && vs.length == ts.length
  | none => false
/-- are they stored from the right? -/
def swO (sc : Scope) (ts vs : List Expr) : Bool := match swapN sc ts vs with
  | some (some _) => true
  | _ => false
/-- which of the targets are names whose lists change -/
def ownFl (M : List Str) (ts : List Expr) : List Bool := ts.map fun
  | .Name x _ => decide (x ∈ M)
  | _ => false
/-- the positions of a comprehension's own names, as the block's own -/
def ownOf (N : List Str) (ts : List Nat) : List (Str × Nat) := ts.map fun i => (N.getD i "", i)

section
variable (us : List Str) (a : Ann)
mutual
def cE : Nat → Scope → Expr → IE
  | 0, _, _ => .never
  | n + 1, sc, e => match e with
    | .Constant c _ _ => match c with
      | .none => .non
      | .bool b => .bl b
      | .int i => .int i
      | .str x => .str x
      | _ => .never
    | .Name x _ => if isLoc sc x then match slotOf a.N x with
        | some i => .var i
        | none => .never
      else .never
    | .BinOp l op r _ => match op2Of op with
      | some o => .op2 o (cE n sc l) (cE n sc r)
      | none => .never
    | .UnaryOp .USub x _ => .neg (cE n sc x)
    | .UnaryOp .Not x _ => .not (cE n sc x)
    | .BoolOp op es pos => match op, es with
      | _, [x] => cE n sc x
      | .And, x :: y :: r => .and (cE n sc x) (cE n sc (.BoolOp .And (y :: r) pos))
      | .Or, x :: y :: r => .or (cE n sc x) (cE n sc (.BoolOp .Or (y :: r) pos))
      | _, _ => .never
    | .Compare l [op] [r] _ => match op, r with
      | .Is, .Constant .none _ _ => .isN (cE n sc l)
      | .IsNot, .Constant .none _ _ => .notN (cE n sc l)
      | op, r => match cmOf op with
        | some o => if behindInMarks op r then .never else .cmp o (cE n sc l) (cE n sc r)
        | none => .never
    | .Compare l [op, op'] [m, r] _ => match cmOf op, cmOf op' with
      | some o, some o' => if lastMarks [op, op'] [m, r] then .never else .chn o o' (cE n sc l) (cE n sc m) (cE n sc r)
      | _, _ => .never
    | .IfExp t x y _ => .ite (cE n sc t) (cE n sc x) (cE n sc y)
    | .List es _ => .lst (es.map (cX n sc))
    | .Tuple es _ _ => if es.any isStar then .never else .tup (es.map (cE n sc))
    | .Subscript x s _ => match s with
      | .Slice none none (some (.UnaryOp .USub (.Constant (.int 1) _ _) _)) _ => .rev (cE n sc x)
      | .Slice lo hi none _ => .slc (cE n sc x) (cO n sc lo) (cO n sc hi)
      | .Slice .. => .never
      | i => .ix (cE n sc x) (cE n sc i)
    | .Call (.Name f _) as ks _ =>
      if isGlb sc f then
        if as.any isStar then .never else
        if f ∈ us then match kwNames ks with
          | some kn => .call f (as.map (cE n sc)) kn (ks.map fun k => cE n sc k.value)
          | none => .never
        else if ks.isEmpty then
          if f = "isinstance" then match as with
            | [x, t] => match tysOf sc t with
              | some ts => .isa (cE n sc x) ts
              | none => .never
            | _ => .never
          else match decide (f = "list"), as with
            | true, [.Call (.Name g _) bs [] _] => if isGlb sc g && decide (g = "range") && !bs.any isStar && (bs.length == 1 || bs.length == 2 || bs.length == 3) then .lrng (bs.map (cE n sc)) else .blt .list (as.map (cE n sc))
            | _, _ => match btOf f as.length with
              | some b => .blt b (as.map (cE n sc))
              | none => .never
        else .never
      else .never
    | .Call (.Attribute (.Name x _) m ap) as ks cp =>
      if isSto sc x && isLoc sc x && decide (x ∈ a.M) && ks.isEmpty && !as.any isStar && (ap.endLine == cp.line) then match slotOf a.N x with
        | some i =>
          if m = "append" && as.length == 1 then .mth .append i (as.map (cE n sc))
          else if m = "extend" && as.length == 1 then .mth .extend i (as.map (cE n sc))
          else if m = "pop" && decide (as.length ≤ 1) then .mth .pop i (as.map (cE n sc))
          else .never
        | none => .never
      else .never
    | .ListComp e [⟨tg, it, ifs, 0⟩] bs _ =>
      let sc' := relS bs sc
      match tgOf bs a.N tg with
      | some (ts, one) => if blkC a.N sc bs (ownOf a.N ts) && decide (ifs.length ≤ 1) && !isSet it then
          .lc (cE n sc' e) ts one (cI n sc (!one) it) (ifs.map (cE n sc')) else .never
      | none => .never
    | _ => .never
/-- a display's item -/
def cX : Nat → Scope → Expr → IE
  | 0, _, _ => .never
  | n + 1, sc, e => match e with
    | .Starred x _ => .star (cE n sc x)
    | e => cE n sc e
/-- a slice's part -/
def cO : Nat → Scope → Option Expr → List IE
  | 0, _, _ => [.never]
  | n + 1, sc, o => match o with
    | none => []
    | some e => [cE n sc e]
/-- what a loop walks; tup: its target is a tuple -/
def cI : Nat → Scope → Bool → Expr → IT
  | 0, _, _, _ => .e .never
  | n + 1, sc, tup, e => match e with
    | .Call (.Name f p) as ks pos =>
      if isGlb sc f && ks.isEmpty && !as.any isStar && !decide (f ∈ us) then
        if f = "range" then if as.length = 0 ∨ 3 < as.length then .e .never else .rng (as.map (cE n sc))
        else if f = "zip" then match as with
          | [x, y] => if tup then .zip (cE n sc x) (cE n sc y) else .e .never
          | _ => .e .never
        else if f = "enumerate" then match as with
          | [x] => if tup then .enm (cE n sc x) [] else .e .never
          | [x, k] => if tup then .enm (cE n sc x) [cE n sc k] else .e .never
          | _ => .e .never
        else .e (cE n sc e)
      else .e (cE n sc e)
    | e => .e (cE n sc e)
end
/-- what is spoilt by a row, if by it anything is -/
def spOf (sc : Scope) : Expr → Option Expr
  | .Call (.Name f _) [x] [] _ => if f = "_law_spoilt" ∧ isGlb sc f = true ∧ isStar x = false then some x else none
  | _ => none
mutual
def cS : Nat → Scope → Stmt → IS
  | 0, _, _ => .never
  | n + 1, sc, s => match s with
    | .Expr e _ => match strOf e with
      | some _ => .pass
      | none => match spOf sc e with
        | some x => .spoil (cE us a n sc x)
        | none => if isComp e then .never else .expr (cE us a n sc e)
    | .Assign [tg] v _ => match tg with
      | .Name x _ => if isSto sc x then match slotOf a.N x with
          | some i => .asg i (decide (x ∈ a.M)) (cE us a n sc v)
          | none => .never
        else .never
      | .Tuple .. => match tgOf sc a.N tg, v with
        | some (ts, _), .Tuple vs _ _ => if vs.any isStar || !parOk sc a.N (elts tg) vs then .never else if swO sc (elts tg) vs && (ownFl a.M (elts tg)).any id then .parO ts ((ownFl a.M (elts tg)).zip (vs.map (cE us a n sc))) else .par ts (vs.map (cE us a n sc))
        | some (ts, _), v => .asgT ts (cE us a n sc v)
        | none, _ => .never
      | .Subscript (.Name x _) i _ => if isSto sc x && isLoc sc x && decide (x ∈ a.M) && !isSlc i then match slotOf a.N x with
          | some k => .setIx k (cE us a n sc i) (cE us a n sc v)
          | none => .never
        else .never
      | _ => .never
    | .Return none _ => .retN
    | .Return (some e) _ => .ret (cE us a n sc e)
    | .If t b o _ => .ite (cE us a n sc t) (cL n sc b) (cL n sc o)
    | .For tg it b [] fp => match tgOf sc a.N tg with
      | some (ts, one) => if isSet it then .never else .for ts one (cI us a n sc (!one) it) (wpB a fp.line (cL n sc b))
      | none => .never
    | .While t b [] fp => .while (cE us a n sc t) (wpB a fp.line (cL n sc b))
    | .Pass _ => .pass
    | _ => .never
def cL : Nat → Scope → List Stmt → List IS
  | 0, _, _ => [.never]
  | n + 1, sc, ss => match ss with
    | [] => []
    | s :: r => if s.pos.line ∈ a.sc then [.scope (cS n sc s :: cL n sc r)] else cS n sc s :: cL n sc r
end
end
/-- a def of the top: its parameters, its body in IL -/
def cFd (us : List Str) (a : Ann) : Stmt → Option (Str × Fd)
  | .FunctionDef f as body _ _ _ sc _ _ _ => some (f, ⟨as.args.map (·.arg), a.N, cL us a 200 sc body⟩)
  | _ => none
end Sd

/-! Sd2: how plain data lie in the heap; what is known of a state. -/
namespace Sd
open PySem PySem.Spec PyProof.Rows L2

/-! ### heaps -/
def Sub (G H : Hp) : Prop := ∀ a o, G a = some o → H a = some o
theorem Sub.refl (G : Hp) : Sub G G := fun _ _ h => h
theorem Sub.trans {G H I : Hp} (a : Sub G H) (b : Sub H I) : Sub G I := fun x o h => b x o (a x o h)
theorem Sub.none {G H : Hp} (s : Sub G H) {a : Addr} (h : H a = none) : G a = none := by
  cases e : G a with
  | none => rfl
  | some o => rw [s a o e] at h; cases h
theorem Sub.upd_new {G H : Hp} {p : Addr} {o : HO} (s : Sub G H) (h : G p = Option.none) : Sub G (upd H p o) := fun a u e => by
  rw [upd_ne (ne_of_none e h)]; exact s a u e
theorem Sub.upd2 {G H : Hp} {p : Addr} {o : HO} (s : Sub G H) : Sub (upd G p o) (upd H p o) := fun a u e => by
  by_cases h : a = p
  · subst h; rw [upd_same] at e ⊢; exact e
  · rw [upd_ne h] at e ⊢; exact s a u e
theorem Sub.upd_in {G H : Hp} {p : Addr} {o : HO} (s : Sub G H) (h : H p = some o) : Sub (upd G p o) H := fun a u e => by
  by_cases hp : a = p
  · subst hp; rw [upd_same] at e; rw [← e]; exact h
  · rw [upd_ne hp] at e; exact s a u e
theorem Sub.to_upd {G : Hp} {p : Addr} {o : HO} (h : G p = Option.none) : Sub G (upd G p o) := (Sub.refl G).upd_new h

/-! ### data in a heap -/
mutual
def Rp (sx : List (Addr × Addr)) (G : Hp) : D → V → Prop
  | .non, v => v = .non
  | .bl b, v => v = .bl b
  | .int i, v => v = .int i
  | .str x, v => v = .str x
  | .lst xs, v => ∃ a vs, v = .ref a ∧ G a = some (.lst vs) ∧ Rps sx G xs vs
  | .tup xs, v => ∃ a vs, v = .ref a ∧ G a = some (.tup vs) ∧ Rps sx G xs vs
  | .dic _ _, _ => False
  | .stm g, v => ∃ p, sx[g]? = some p ∧ v = .ref p.1
  | .obj a, v => v = .ref a
def Rps (sx : List (Addr × Addr)) (G : Hp) : List D → List V → Prop
  | [], vs => vs = []
  | d :: ds, vs => ∃ v r, vs = v :: r ∧ Rp sx G d v ∧ Rps sx G ds r
end
theorem Rps.nil {sx : List (Addr × Addr)} {G : Hp} : Rps sx G [] [] := by simp [Rps]
theorem Rps.cons {sx : List (Addr × Addr)} {G : Hp} {d : D} {ds : List D} {v : V} {vs : List V} (a : Rp sx G d v) (b : Rps sx G ds vs) : Rps sx G (d :: ds) (v :: vs) := by
  simp only [Rps]; exact ⟨v, vs, rfl, a, b⟩
theorem Rps.inv {sx : List (Addr × Addr)} {G : Hp} {d : D} {ds : List D} {vs : List V} (h : Rps sx G (d :: ds) vs) : ∃ v r, vs = v :: r ∧ Rp sx G d v ∧ Rps sx G ds r := by
  simpa only [Rps] using h
def Pre {α : Type} (a b : List α) : Prop := ∃ r, b = a ++ r
theorem Pre.refl {α : Type} (a : List α) : Pre a a := ⟨[], by simp⟩
theorem Pre.trans {α : Type} {a b c : List α} (h : Pre a b) (k : Pre b c) : Pre a c := by
  obtain ⟨r, rfl⟩ := h; obtain ⟨s, rfl⟩ := k; exact ⟨r ++ s, by simp⟩
theorem Pre.get {α : Type} {a b : List α} {i : Nat} {x : α} (h : Pre a b) (e : a[i]? = some x) : b[i]? = some x := by
  obtain ⟨r, rfl⟩ := h
  rw [List.getElem?_append_left (List.getElem?_eq_some_iff.mp e).1]; exact e
mutual
theorem Rp.mono {sx sx' : List (Addr × Addr)} {G G' : Hp} (hs : Pre sx sx') (s : Sub G G') : ∀ (d : D) (v : V), Rp sx G d v → Rp sx' G' d v
  | .non, v, h => by simpa only [Rp] using h
  | .bl b, v, h => by simpa only [Rp] using h
  | .int i, v, h => by simpa only [Rp] using h
  | .str x, v, h => by simpa only [Rp] using h
  | .lst xs, v, h => by
    simp only [Rp] at h ⊢
    obtain ⟨a, vs, e, h1, h2⟩ := h
    exact ⟨a, vs, e, s _ _ h1, Rps.mono hs s xs vs h2⟩
  | .tup xs, v, h => by
    simp only [Rp] at h ⊢
    obtain ⟨a, vs, e, h1, h2⟩ := h
    exact ⟨a, vs, e, s _ _ h1, Rps.mono hs s xs vs h2⟩
  | .dic ks ds, v, h => by simp only [Rp] at h
  | .stm g, v, h => by
    simp only [Rp] at h ⊢
    obtain ⟨p, h1, h2⟩ := h
    exact ⟨p, hs.get h1, h2⟩
  | .obj a, v, h => by simpa only [Rp] using h
theorem Rps.mono {sx sx' : List (Addr × Addr)} {G G' : Hp} (hs : Pre sx sx') (s : Sub G G') : ∀ (ds : List D) (vs : List V), Rps sx G ds vs → Rps sx' G' ds vs
  | [], vs, h => by simpa only [Rps] using h
  | d :: ds, vs, h => by
    obtain ⟨v, r, rfl, h1, h2⟩ := h.inv
    exact .cons (Rp.mono hs s d v h1) (Rps.mono hs s ds r h2)
end
theorem Rps.length {sx : List (Addr × Addr)} {G : Hp} : ∀ {ds : List D} {vs : List V}, Rps sx G ds vs → vs.length = ds.length
  | [], _, h => by simp only [Rps] at h; subst h; rfl
  | d :: ds, _, h => by
    obtain ⟨v, r, rfl, _, h2⟩ := h.inv
    simp [h2.length]
theorem Rps.get {sx : List (Addr × Addr)} {G : Hp} : ∀ {ds : List D} {vs : List V} {i : Nat} {d : D}, Rps sx G ds vs → ds[i]? = some d → ∃ v, vs[i]? = some v ∧ Rp sx G d v
  | [], _, _, _, _, e => by simp at e
  | _ :: ds, _, 0, _, h, e => by
    obtain ⟨v, r, rfl, h1, _⟩ := h.inv
    simp at e; subst e; exact ⟨v, rfl, h1⟩
  | _ :: ds, _, i + 1, d, h, e => by
    obtain ⟨v, r, rfl, _, h2⟩ := h.inv
    obtain ⟨w, h3, h4⟩ := Rps.get (i := i) h2 (by simpa using e)
    exact ⟨w, by simpa using h3, h4⟩
theorem Rps.get' {sx : List (Addr × Addr)} {G : Hp} {ds : List D} {vs : List V} {i : Nat} {v : V} (h : Rps sx G ds vs) (e : vs[i]? = some v) : ∃ d, ds[i]? = some d ∧ Rp sx G d v := by
  have hl := h.length
  have hi : i < ds.length := by rw [← hl]; exact (List.getElem?_eq_some_iff.mp e).1
  obtain ⟨w, h1, h2⟩ := h.get (List.getElem?_eq_getElem hi)
  rw [e] at h1; cases h1
  exact ⟨_, List.getElem?_eq_getElem hi, h2⟩
theorem Rps.append {sx : List (Addr × Addr)} {G : Hp} : ∀ {ds es : List D} {vs ws : List V}, Rps sx G ds vs → Rps sx G es ws → Rps sx G (ds ++ es) (vs ++ ws)
  | [], _, _, _, h, k => by simp only [Rps] at h; subst h; simpa using k
  | d :: ds, _, _, _, h, k => by
    obtain ⟨v, r, rfl, h1, h2⟩ := h.inv
    exact .cons h1 (h2.append k)
theorem Rps.drop {sx : List (Addr × Addr)} {G : Hp} : ∀ (n : Nat) {ds : List D} {vs : List V}, Rps sx G ds vs → Rps sx G (ds.drop n) (vs.drop n)
  | 0, _, _, h => h
  | n + 1, [], _, h => by simp only [Rps] at h; subst h; simp [Rps.nil]
  | n + 1, d :: ds, _, h => by
    obtain ⟨v, r, rfl, _, h2⟩ := h.inv
    simpa using Rps.drop n h2
theorem Rps.take {sx : List (Addr × Addr)} {G : Hp} : ∀ (n : Nat) {ds : List D} {vs : List V}, Rps sx G ds vs → Rps sx G (ds.take n) (vs.take n)
  | 0, _, _, _ => by simp [Rps.nil]
  | n + 1, [], _, h => by simp only [Rps] at h; subst h; simp [Rps.nil]
  | n + 1, d :: ds, _, h => by
    obtain ⟨v, r, rfl, h1, h2⟩ := h.inv
    simpa using Rps.cons h1 (Rps.take n h2)
theorem Rps.set {sx : List (Addr × Addr)} {G : Hp} {d : D} {v : V} (r : Rp sx G d v) : ∀ (i : Nat) {ds : List D} {vs : List V}, Rps sx G ds vs → Rps sx G (ds.set i d) (vs.set i v)
  | _, [], _, h => by simp only [Rps] at h; subst h; simp [Rps.nil]
  | 0, e :: ds, _, h => by
    obtain ⟨w, q, rfl, _, h2⟩ := h.inv
    simpa using Rps.cons r h2
  | i + 1, e :: ds, _, h => by
    obtain ⟨w, q, rfl, h1, h2⟩ := h.inv
    simpa using Rps.cons h1 (Rps.set r i h2)
theorem Rps.eraseIdx {sx : List (Addr × Addr)} {G : Hp} : ∀ (i : Nat) {ds : List D} {vs : List V}, Rps sx G ds vs → Rps sx G (ds.eraseIdx i) (vs.eraseIdx i)
  | _, [], _, h => by simp only [Rps] at h; subst h; simp [Rps.nil]
  | 0, e :: ds, _, h => by
    obtain ⟨w, q, rfl, _, h2⟩ := h.inv
    simpa using h2
  | i + 1, e :: ds, _, h => by
    obtain ⟨w, q, rfl, h1, h2⟩ := h.inv
    simpa using Rps.cons h1 (Rps.eraseIdx i h2)
theorem Rps.reverse {sx : List (Addr × Addr)} {G : Hp} : ∀ {ds : List D} {vs : List V}, Rps sx G ds vs → Rps sx G ds.reverse vs.reverse
  | [], _, h => by simp only [Rps] at h; subst h; simp [Rps.nil]
  | e :: ds, _, h => by
    obtain ⟨w, q, rfl, h1, h2⟩ := h.inv
    simpa using h2.reverse.append (.cons h1 .nil)
theorem Rps.rep {sx : List (Addr × Addr)} {G : Hp} {ds : List D} {vs : List V} (h : Rps sx G ds vs) : ∀ k : Nat, Rps sx G (List.replicate k ds).flatten (List.replicate k vs).flatten
  | 0 => by simp [Rps.nil]
  | k + 1 => by simpa [List.replicate_succ] using h.append (Rps.rep h k)
theorem Rps.ints {sx : List (Addr × Addr)} {G : Hp} : ∀ (ns : List Int), Rps sx G (ns.map D.int) (ns.map V.int)
  | [] => by simp [Rps.nil]
  | n :: ns => .cons (by simp [Rp]) (Rps.ints ns)
theorem intsOf_inv : ∀ {ds : List D} {ns : List Int}, intsOf ds = some ns → ds = ns.map D.int
  | [], ns, h => by simp [intsOf] at h; subst h; rfl
  | .int i :: r, ns, h => by
    simp only [intsOf, Option.map_eq_some_iff] at h
    obtain ⟨m, hm, rfl⟩ := h
    rw [intsOf_inv hm]; rfl
  | .non :: r, ns, h => by simp [intsOf] at h
  | .bl b :: r, ns, h => by simp [intsOf] at h
  | .str b :: r, ns, h => by simp [intsOf] at h
  | .lst b :: r, ns, h => by simp [intsOf] at h
  | .tup b :: r, ns, h => by simp [intsOf] at h
  | .dic b e :: r, ns, h => by simp [intsOf] at h
  | .stm b :: r, ns, h => by simp [intsOf] at h
  | .obj b :: r, ns, h => by simp [intsOf] at h
theorem blsOf_inv : ∀ {ds : List D} {ns : List Bool}, blsOf ds = some ns → ds = ns.map D.bl
  | [], ns, h => by simp [blsOf] at h; subst h; rfl
  | .bl i :: r, ns, h => by
    simp only [blsOf, Option.map_eq_some_iff] at h
    obtain ⟨m, hm, rfl⟩ := h
    rw [blsOf_inv hm]; rfl
  | .non :: r, ns, h => by simp [blsOf] at h
  | .int b :: r, ns, h => by simp [blsOf] at h
  | .str b :: r, ns, h => by simp [blsOf] at h
  | .lst b :: r, ns, h => by simp [blsOf] at h
  | .tup b :: r, ns, h => by simp [blsOf] at h
  | .dic b e :: r, ns, h => by simp [blsOf] at h
  | .stm b :: r, ns, h => by simp [blsOf] at h
  | .obj b :: r, ns, h => by simp [blsOf] at h
theorem Rps.ints_inv {sx : List (Addr × Addr)} {G : Hp} : ∀ {ns : List Int} {vs : List V}, Rps sx G (ns.map D.int) vs → vs = ns.map V.int
  | [], _, h => by simpa only [List.map_nil, Rps] using h
  | n :: ns, _, h => by
    obtain ⟨v, r, rfl, h1, h2⟩ := Rps.inv h
    simp only [Rp] at h1
    rw [h1, Rps.ints_inv h2]; rfl
theorem Rps.bls_inv {sx : List (Addr × Addr)} {G : Hp} : ∀ {ns : List Bool} {vs : List V}, Rps sx G (ns.map D.bl) vs → vs = ns.map V.bl
  | [], _, h => by simpa only [List.map_nil, Rps] using h
  | n :: ns, _, h => by
    obtain ⟨v, r, rfl, h1, h2⟩ := Rps.inv h
    simp only [Rp] at h1
    rw [h1, Rps.bls_inv h2]; rfl

/-! ### regions -/
def regm (G : Nat → Hp) (lv : Nat) (f : Fl) : Hp := fun a => match G lv a with
  | some (.tup xs) => some (.tup xs)
  | some o => if (f.lo == 0 || (G (f.lo - 1) a).isNone) && (G f.hi a).isSome then some o else none
  | none => none
/-- the regions: growing, the last one stays -/
structure Gok (G : Nat → Hp) (lv : Nat) : Prop where
  mono : ∀ m n, m ≤ n → Sub (G m) (G n)
  flat : ∀ n, lv ≤ n → G n = G lv
theorem regm_sub {G : Nat → Hp} {lv : Nat} {f : Fl} : Sub (regm G lv f) (G lv) := fun a o h => by
  unfold regm at h
  split at h
  · rename_i e; rw [e]; exact h
  · rename_i e
    split at h
    · rw [e]; exact h
    · cases h
  · cases h
theorem regm_tup {G : Nat → Hp} {lv : Nat} {f : Fl} {a : Addr} {xs : List V} (h : G lv a = some (.tup xs)) : regm G lv f a = some (.tup xs) := by
  unfold regm; rw [h]
theorem regm_in {G : Nat → Hp} {lv : Nat} {f : Fl} {a : Addr} {o : HO} (h : G lv a = some o) (h1 : f.lo = 0 ∨ G (f.lo - 1) a = none) (h2 : G f.hi a ≠ none) : regm G lv f a = some o := by
  unfold regm
  rw [h]
  have c : ((f.lo == 0 || (G (f.lo - 1) a).isNone) && (G f.hi a).isSome) = true := by
    rcases h1 with h1 | h1
    · simp [h1, Option.isSome_iff_ne_none, h2]
    · simp [h1, Option.isSome_iff_ne_none, h2]
  cases o <;> simp [c]
/-- .. and what is in it -/
theorem regm_out {G : Nat → Hp} {lv : Nat} {f : Fl} {a : Addr} {o : HO} (h : regm G lv f a = some o) : G lv a = some o ∧ ((∃ xs, o = .tup xs) ∨ ((f.lo = 0 ∨ G (f.lo - 1) a = none) ∧ G f.hi a ≠ none)) := by
  refine ⟨regm_sub a o h, ?_⟩
  unfold regm at h
  split at h
  · rename_i e; cases h; exact .inl ⟨_, rfl⟩
  · split at h
    · rename_i c
      simp only [Bool.and_eq_true, Bool.or_eq_true, beq_iff_eq, Option.isNone_iff_eq_none, Option.isSome_iff_ne_none] at c
      exact .inr c
    · cases h
  · cases h
/-- the regions G' where those of G have grown at the last one -/
structure Gext (G : Nat → Hp) (lv : Nat) (G' : Nat → Hp) : Prop where
  low : ∀ n, n < lv → G' n = G n
  up : Sub (G lv) (G' lv)
theorem Gext.refl {G : Nat → Hp} {lv : Nat} : Gext G lv G := ⟨fun _ _ => rfl, Sub.refl _⟩
theorem Gext.trans {G G' G'' : Nat → Hp} {lv : Nat} (a : Gext G lv G') (b : Gext G' lv G'') : Gext G lv G'' := ⟨fun n h => (b.low n h).trans (a.low n h), a.up.trans b.up⟩
theorem regm_mono {G G' : Nat → Hp} {lv : Nat} {f : Fl} (k : Gok G lv) (k' : Gok G' lv) (e : Gext G lv G') : Sub (regm G lv f) (regm G' lv f) := fun a o h => by
  obtain ⟨h0, h1⟩ := regm_out h
  have h0' := e.up a o h0
  rcases h1 with ⟨xs, rfl⟩ | ⟨h1, h2⟩
  · exact regm_tup h0'
  · refine regm_in h0' ?_ ?_
    · rcases h1 with h1 | h1
      · exact .inl h1
      · by_cases hl : f.lo - 1 < lv
        · rw [e.low _ hl]; exact .inr h1
        · rw [k.flat _ (by omega), h0] at h1; cases h1
    · by_cases hl : f.hi < lv
      · rw [e.low _ hl]; exact h2
      · rw [k'.flat _ (by omega), h0']; exact fun z => by cases z
/-- a greater region -/
theorem regm_join_l {G : Nat → Hp} {lv : Nat} {f g : Fl} (k : Gok G lv) : Sub (regm G lv f) (regm G lv (f.join g)) := fun a o h => by
  obtain ⟨h0, h1⟩ := regm_out h
  rcases h1 with ⟨xs, rfl⟩ | ⟨h1, h2⟩
  · exact regm_tup h0
  · refine regm_in h0 ?_ ?_
    · rcases h1 with h1 | h1
      · exact .inl (by show min f.lo g.lo = 0; omega)
      · by_cases hz : min f.lo g.lo = 0
        · exact .inl hz
        · exact .inr ((k.mono (min f.lo g.lo - 1) (f.lo - 1) (by omega)).none h1)
    · intro z
      exact h2 ((k.mono f.hi (max f.hi g.hi) (by omega)).none z)
theorem Fl.join_comm (f g : Fl) : f.join g = g.join f := by
  unfold Fl.join; rw [Nat.min_comm, Nat.max_comm]
theorem regm_join_r {G : Nat → Hp} {lv : Nat} {f g : Fl} (k : Gok G lv) : Sub (regm G lv g) (regm G lv (f.join g)) := by
  rw [Fl.join_comm]; exact regm_join_l k
/-! what can't change lies in every region -/
mutual
theorem Rp.immut {sx : List (Addr × Addr)} {G : Nat → Hp} {lv : Nat} {f g : Fl} : ∀ (d : D) (v : V), imm d = true → Rp sx (regm G lv f) d v → Rp sx (regm G lv g) d v
  | .non, v, _, h => by simpa only [Rp] using h
  | .bl b, v, _, h => by simpa only [Rp] using h
  | .int i, v, _, h => by simpa only [Rp] using h
  | .str x, v, _, h => by simpa only [Rp] using h
  | .lst xs, v, i, h => by simp [imm] at i
  | .tup xs, v, i, h => by
    simp only [Rp] at h ⊢
    obtain ⟨a, vs, e, h1, h2⟩ := h
    exact ⟨a, vs, e, regm_tup (regm_sub _ _ h1), Rps.immut xs vs (by simpa [imm] using i) h2⟩
  | .dic ks ds, v, i, h => by simp [imm] at i
  | .stm k, v, _, h => by simpa only [Rp] using h
  | .obj k, v, _, h => by simpa only [Rp] using h
theorem Rps.immut {sx : List (Addr × Addr)} {G : Nat → Hp} {lv : Nat} {f g : Fl} : ∀ (ds : List D) (vs : List V), imms ds = true → Rps sx (regm G lv f) ds vs → Rps sx (regm G lv g) ds vs
  | [], vs, _, h => by simpa only [Rps] using h
  | d :: ds, vs, i, h => by
    obtain ⟨v, r, rfl, h1, h2⟩ := h.inv
    have i' : imm d = true ∧ imms ds = true := by simpa [imms] using i
    exact .cons (Rp.immut d v i'.1 h1) (Rps.immut ds r i'.2 h2)
end
theorem Rp.nrm {sx : List (Addr × Addr)} {G : Nat → Hp} {lv : Nat} {f : Fl} {d : D} {v : V} (h : Rp sx (regm G lv f) d v) : Rp sx (regm G lv (nrm d f)) d v := by
  unfold Sd.nrm
  split
  · rename_i i; exact Rp.immut d v i h
  · exact h
theorem Rp.unnrm {sx : List (Addr × Addr)} {G : Nat → Hp} {lv : Nat} {f : Fl} {d : D} {v : V} (h : Rp sx (regm G lv (Sd.nrm d f)) d v) : Rp sx (regm G lv f) d v := by
  unfold Sd.nrm at h
  split at h
  · rename_i i; exact Rp.immut d v i h
  · exact h

/-! ### what is known of a state -/
structure Dy where
  /-- what is to stay -/
  Z : Hp
  /-- what stood at the entry -/
  B : Hp
  /-- the regions -/
  G : Nat → Hp
  /-- the streams' addresses -/
  sx : List (Addr × Addr)
def NotStr (sx : List (Addr × Addr)) (p : Addr) : Prop := ∀ q ∈ sx, p ≠ q.1 ∧ p ≠ q.2
structure StrR (y : Dy) (lv : Nat) (s : List Stm) (H : Hp) : Prop where
  len : y.sx.length = s.length
  at_ : ∀ (g : Nat) (p : Addr × Addr) (t : Stm), y.sx[g]? = some p → s[g]? = some t → H p.1 = some (.lst [.ref p.2, .int t.cur, .int t.cnt, .int t.mix]) ∧ H p.2 = some (.lst (t.cells.map V.int))
  off : ∀ p ∈ y.sx, y.G lv p.1 = none ∧ y.G lv p.2 = none ∧ y.Z p.1 = none ∧ y.Z p.2 = none
  nd : (y.sx.flatMap fun p => [p.1, p.2]).Nodup
/-- the address p holds a list that nothing knows but who owns it -/
def OwnR (y : Dy) (lv : Nat) (H : Hp) (f : Fl) (d : D) (p : Addr) : Prop :=
  y.G lv p = none ∧ y.Z p = none ∧ y.B p = none ∧ NotStr y.sx p ∧
    match d with
    | .lst xs => ∃ vs, H p = some (.lst vs) ∧ Rps y.sx (regm y.G lv f) xs vs
    | _ => False
def SlotR (y : Dy) (lv : Nat) (H : Hp) : Slot → Option V → Prop
  | .un, _ => True
  | .sh f d, o => ∃ v, o = some v ∧ Rp y.sx (regm y.G lv f) d v
  | .ow f d, o => ∃ p, o = some (.ref p) ∧ OwnR y lv H f d p
def OwnAt (c : C) (σ : L2.St) (i : Nat) (p : Addr) : Prop := (∃ f d, c.r[i]? = some (.ow f d)) ∧ σ[i]? = some (some (.ref p))
structure SR (y : Dy) (lv : Nat) (c : C) (σ : L2.St) (H : Hp) : Prop where
  pos : 1 ≤ lv
  zb : ∀ a, y.Z a ≠ none → y.B a ≠ none
  g : Gok y.G lv
  top : Sub (y.G lv) H
  prot : Sub y.Z H
  old : ∀ a, y.B a ≠ none → H a ≠ none
  fresh : ∀ a o, y.G lv a = some o → y.G 0 a = some o ∨ y.B a = none
  slots : ∀ (i : Nat) s, c.r[i]? = some s → SlotR y lv H s (σ.getD i none)
  inj : ∀ (i j : Nat) (p : Addr), OwnAt c σ i p → OwnAt c σ j p → i = j
  str : StrR y lv c.s H
  len : c.r.length = σ.length
/-- what has grown -/
structure Ext (y : Dy) (lv : Nat) (y' : Dy) : Prop where
  z : y'.Z = y.Z
  b : y'.B = y.B
  g : Gext y.G lv y'.G
  s : Pre y.sx y'.sx
theorem Ext.refl {y : Dy} {lv : Nat} : Ext y lv y := ⟨rfl, rfl, Gext.refl, Pre.refl _⟩
theorem Ext.trans {y y' y'' : Dy} {lv : Nat} (a : Ext y lv y') (b : Ext y' lv y'') : Ext y lv y'' := ⟨b.z.trans a.z, b.b.trans a.b, a.g.trans b.g, a.s.trans b.s⟩
/-- a value, ahead and behind -/
theorem Rp.ext {y y' : Dy} {lv : Nat} {c c' : C} {σ σ' : L2.St} {H H' : Hp} {f : Fl} {d : D} {v : V} (e : Ext y lv y') (s : SR y lv c σ H) (s' : SR y' lv c' σ' H') (h : Rp y.sx (regm y.G lv f) d v) : Rp y'.sx (regm y'.G lv f) d v :=
  Rp.mono e.s (regm_mono s.g s'.g e.g) d v h
theorem Rps.ext {y y' : Dy} {lv : Nat} {c c' : C} {σ σ' : L2.St} {H H' : Hp} {f : Fl} {d : List D} {v : List V} (e : Ext y lv y') (s : SR y lv c σ H) (s' : SR y' lv c' σ' H') (h : Rps y.sx (regm y.G lv f) d v) : Rps y'.sx (regm y'.G lv f) d v :=
  Rps.mono e.s (regm_mono s.g s'.g e.g) d v h
/-- what an expression came to -/
def RelR (y : Dy) (lv : Nat) (c : C) (σ : L2.St) (H : Hp) : R → V → Prop
  | .val f d, v => Rp y.sx (regm y.G lv f) d v
  | .new f d, v => ∃ p, v = .ref p ∧ OwnR y lv H f d p ∧ ∀ i, ¬ OwnAt c σ i p
  | .bor i, v => σ[i]? = some (some v)
/-- an operand -/
def RelO (y : Dy) (lv : Nat) (σ : L2.St) : R → V → Prop
  | .val f d, v => Rp y.sx (regm y.G lv f) d v
  | .new _ _, _ => False
  | .bor i, v => σ[i]? = some (some v)
theorem RelO.ext {y y' : Dy} {lv : Nat} {c c' : C} {σ : L2.St} {H H' : Hp} {r : R} {v : V} (e : Ext y lv y') (s : SR y lv c σ H) (s' : SR y' lv c' σ H') (h : RelO y lv σ r v) : RelO y' lv σ r v := by
  cases r with
  | val f d => exact Rp.ext e s s' h
  | new f d => exact h
  | bor i => exact h
/-- what is seen of an operand: the data, in the heap as it is -/
theorem RelO.look {y : Dy} {lv : Nat} {c : C} {σ : L2.St} {H : Hp} {r : R} {v : V} {f : Fl} {d : D} (s : SR y lv c σ H) (h : RelO y lv σ r v) (e : look c r = some (f, d)) :
    Rp y.sx H d v ∧ (∀ xs vs a, d = .lst xs → v = .ref a → H a = some (.lst vs) → Rps y.sx (regm y.G lv f) xs vs) ∧ (∀ xs vs a, d = .tup xs → v = .ref a → H a = some (.tup vs) → Rps y.sx (regm y.G lv f) xs vs) := by
  have gen : ∀ (f : Fl) (d : D) (v : V), Rp y.sx (regm y.G lv f) d v → Rp y.sx H d v ∧ (∀ xs vs a, d = .lst xs → v = .ref a → H a = some (.lst vs) → Rps y.sx (regm y.G lv f) xs vs) ∧ (∀ xs vs a, d = .tup xs → v = .ref a → H a = some (.tup vs) → Rps y.sx (regm y.G lv f) xs vs) := fun f d v h => by
    refine ⟨Rp.mono (Pre.refl _) (regm_sub.trans s.top) d v h, fun xs vs a e1 e2 e3 => ?_, fun xs vs a e1 e2 e3 => ?_⟩
    · subst e1; subst e2
      simp only [Rp] at h
      obtain ⟨b, ws, e4, h1, h2⟩ := h
      cases e4
      have := s.top _ _ (regm_sub _ _ h1)
      rw [e3] at this; cases this
      exact h2
    · subst e1; subst e2
      simp only [Rp] at h
      obtain ⟨b, ws, e4, h1, h2⟩ := h
      cases e4
      have := s.top _ _ (regm_sub _ _ h1)
      rw [e3] at this; cases this
      exact h2
  cases r with
  | val g b =>
    simp only [Sd.look, Option.some.injEq, Prod.mk.injEq] at e
    obtain ⟨rfl, rfl⟩ := e
    exact gen _ _ _ h
  | new g b => exact h.elim
  | bor i =>
    simp only [Sd.look] at e
    split at e
    · rename_i g b hs
      cases e
      have q := s.slots i _ hs
      obtain ⟨p, e1, _, _, _, _, q2⟩ := q
      have hv : σ.getD i none = some v := by rw [List.getD_eq_getElem?_getD, (h : σ[i]? = some (some v))]; rfl
      rw [hv] at e1
      cases e1
      cases d with
      | lst xs =>
        obtain ⟨vs, h1, h2⟩ := q2
        refine ⟨?_, fun ys ws a e1 e2 e3 => ?_, fun ys ws a e1 => by cases e1⟩
        · simp only [Rp]
          exact ⟨p, vs, rfl, h1, Rps.mono (Pre.refl _) (regm_sub.trans s.top) xs vs h2⟩
        · cases e1; cases e2
          rw [h1] at e3; cases e3
          exact h2
      | _ => exact q2.elim
    · rename_i g b hs
      cases e
      have q := s.slots i _ hs
      obtain ⟨w, e1, q2⟩ := q
      have hv : σ.getD i none = some v := by rw [List.getD_eq_getElem?_getD, (h : σ[i]? = some (some v))]; rfl
      rw [hv] at e1
      cases e1
      exact gen _ _ _ q2
    · cases e
end Sd

/-! Sd3: steps of a state. -/
namespace Sd
open PySem PySem.Spec PyProof.Rows L2

theorem getD_set_self {α : Type} {l : List α} {i : Nat} {x d : α} (h : i < l.length) : (l.set i x).getD i d = x := by
  rw [List.getD_eq_getElem?_getD, List.getElem?_set_self h]; rfl
theorem getD_set_ne {α : Type} {l : List α} {i j : Nat} {x d : α} (h : i ≠ j) : (l.set i x).getD j d = l.getD j d := by
  rw [List.getD_eq_getElem?_getD, List.getElem?_set_ne h, ← List.getD_eq_getElem?_getD]
theorem getD_some {σ : L2.St} {i : Nat} {v : V} : σ.getD i none = some v ↔ σ[i]? = some (some v) := by
  rw [List.getD_eq_getElem?_getD]
  cases h : σ[i]? with
  | none => simp
  | some o => simp
theorem OwnR.sub {y : Dy} {lv : Nat} {H H' : Hp} {f : Fl} {d : D} {p : Addr} (s : Sub H H') (h : OwnR y lv H f d p) : OwnR y lv H' f d p := by
  obtain ⟨h1, h2, h3, h4, h5⟩ := h
  refine ⟨h1, h2, h3, h4, ?_⟩
  cases d <;> first | exact h5.elim | (obtain ⟨vs, a, b⟩ := h5; exact ⟨vs, s _ _ a, b⟩)
theorem SlotR.sub {y : Dy} {lv : Nat} {H H' : Hp} {s : Slot} {o : Option V} (e : Sub H H') (h : SlotR y lv H s o) : SlotR y lv H' s o := by
  cases s with
  | un => trivial
  | sh f d => exact h
  | ow f d => obtain ⟨p, h1, h2⟩ := h; exact ⟨p, h1, h2.sub e⟩
theorem StrR.sub {y : Dy} {lv : Nat} {s : List Stm} {H H' : Hp} (e : Sub H H') (h : StrR y lv s H) : StrR y lv s H' :=
  ⟨h.len, fun g p t a b => ⟨e _ _ (h.at_ g p t a b).1, e _ _ (h.at_ g p t a b).2⟩, h.off, h.nd⟩
/-- the heap has grown -/
theorem SR.sub {y : Dy} {lv : Nat} {c : C} {σ : L2.St} {H H' : Hp} (s : SR y lv c σ H) (e : Sub H H') : SR y lv c σ H' :=
  ⟨s.pos, s.zb, s.g, s.top.trans e, s.prot.trans e, fun a h z => s.old a h (e.none z), s.fresh, fun i sl h => (s.slots i sl h).sub e, s.inj, s.str.sub e, s.len⟩
theorem SR.gnone {y : Dy} {lv : Nat} {c : C} {σ : L2.St} {H : Hp} (s : SR y lv c σ H) {p : Addr} (h : H p = none) :
    y.G lv p = none ∧ y.Z p = none ∧ y.B p = none ∧ NotStr y.sx p ∧ ∀ i, ¬ OwnAt c σ i p := by
  refine ⟨s.top.none h, s.prot.none h, ?_, fun q hq => ?_, fun i ho => ?_⟩
  · cases e : y.B p with
    | none => rfl
    | some o => exact absurd h (s.old p (by rw [e]; exact fun z => by cases z))
  · obtain ⟨g, hg⟩ := List.getElem?_of_mem hq
    have hl : g < c.s.length := by rw [← s.str.len]; exact (List.getElem?_eq_some_iff.mp hg).1
    obtain ⟨h1, h2⟩ := s.str.at_ g q _ hg (List.getElem?_eq_getElem hl)
    refine ⟨fun z => ?_, fun z => ?_⟩
    · rw [z, h1] at h; cases h
    · rw [z, h2] at h; cases h
  · obtain ⟨⟨f, d, hf⟩, hs⟩ := ho
    obtain ⟨q, e1, _, _, _, _, e2⟩ := s.slots i _ hf
    rw [getD_some.mpr hs] at e1
    cases e1
    cases d <;> first | exact e2.elim | (obtain ⟨vs, a, _⟩ := e2; rw [h] at a; cases a)

/-! ### a thing goes into the last region -/
def addG (G : Nat → Hp) (lv : Nat) (p : Addr) (o : HO) : Nat → Hp := fun n => if n < lv then G n else upd (G lv) p o
theorem addG_low {G : Nat → Hp} {lv n : Nat} {p : Addr} {o : HO} (h : n < lv) : addG G lv p o n = G n := by unfold addG; rw [if_pos h]
theorem addG_top {G : Nat → Hp} {lv n : Nat} {p : Addr} {o : HO} (h : lv ≤ n) : addG G lv p o n = upd (G lv) p o := by unfold addG; rw [if_neg (by omega)]
theorem Gok.add {G : Nat → Hp} {lv : Nat} {p : Addr} {o : HO} (k : Gok G lv) (hn : G lv p = none) : Gok (addG G lv p o) lv := by
  refine ⟨fun m n h => ?_, fun n h => by rw [addG_top h, addG_top (Nat.le_refl _)]⟩
  by_cases h1 : n < lv
  · rw [addG_low h1, addG_low (by omega)]; exact k.mono m n h
  · rw [addG_top (by omega : lv ≤ n)]
    by_cases h2 : m < lv
    · rw [addG_low h2]; exact (k.mono m lv (by omega)).upd_new ((k.mono m lv (by omega)).none hn)
    · rw [addG_top (by omega : lv ≤ m)]; exact Sub.refl _
theorem Gext.add {G : Nat → Hp} {lv : Nat} {p : Addr} {o : HO} (hn : G lv p = none) : Gext G lv (addG G lv p o) :=
  ⟨fun n h => addG_low h, by rw [addG_top (Nat.le_refl _)]; exact Sub.to_upd hn⟩
abbrev Dy.add (y : Dy) (lv : Nat) (p : Addr) (o : HO) : Dy := { y with G := addG y.G lv p o }
theorem Ext.add {y : Dy} {lv : Nat} {p : Addr} {o : HO} (hn : y.G lv p = none) : Ext y lv (y.add lv p o) := ⟨rfl, rfl, Gext.add hn, Pre.refl _⟩
theorem OwnR.ext {y y' : Dy} {lv : Nat} {H : Hp} {f : Fl} {d : D} {p : Addr} (k : Gok y.G lv) (k' : Gok y'.G lv) (e : Ext y lv y') (hg : y'.G lv p = none) (hs : NotStr y'.sx p) (h : OwnR y lv H f d p) : OwnR y' lv H f d p := by
  obtain ⟨h1, h2, h3, h4, h5⟩ := h
  refine ⟨hg, by rw [e.z]; exact h2, by rw [e.b]; exact h3, hs, ?_⟩
  cases d <;> first | exact h5.elim | (obtain ⟨vs, a, b⟩ := h5; exact ⟨vs, a, Rps.mono e.s (regm_mono k k' e.g) _ _ b⟩)
/-- an owned or a new thing, a new tuple: frozen -/
theorem SR.freeze {y : Dy} {lv : Nat} {c : C} {σ : L2.St} {H : Hp} {p : Addr} {o : HO} (s : SR y lv c σ H) (hp : H p = some o) (h1 : y.G lv p = none) (h3 : y.B p = none) (h4 : NotStr y.sx p) (h5 : ∀ i, ¬ OwnAt c σ i p) :
    SR (y.add lv p o) lv c σ H := by
  have k' : Gok (addG y.G lv p o) lv := s.g.add h1
  have e : Ext y lv (y.add lv p o) := Ext.add h1
  refine ⟨s.pos, s.zb, k', ?_, s.prot, s.old, fun a u ha => ?_, fun i sl hi => ?_, s.inj, ?_, s.len⟩
  · show Sub (addG y.G lv p o lv) H
    rw [addG_top (Nat.le_refl _)]; exact s.top.upd_in hp
  · have ha : addG y.G lv p o lv a = some u := ha
    show addG y.G lv p o 0 a = some u ∨ _
    rw [addG_low (show 0 < lv from s.pos)]
    rw [addG_top (Nat.le_refl _)] at ha
    by_cases hap : a = p
    · subst hap; exact .inr h3
    · rw [upd_ne hap] at ha; exact s.fresh a u ha
  · cases sl with
    | un => trivial
    | sh f d =>
      obtain ⟨v, e1, e2⟩ := s.slots i _ hi
      exact ⟨v, e1, Rp.mono (Pre.refl _) (regm_mono s.g k' e.g) d v e2⟩
    | ow f d =>
      obtain ⟨q, e1, e2⟩ := s.slots i _ hi
      have hq : q ≠ p := fun z => h5 i ⟨⟨f, d, hi⟩, getD_some.mp (by rw [← z]; exact e1)⟩
      refine ⟨q, e1, e2.ext s.g k' e ?_ e2.2.2.2.1⟩
      show addG y.G lv p o lv q = none
      rw [addG_top (Nat.le_refl _), upd_ne hq]; exact e2.1
  · refine ⟨s.str.len, s.str.at_, fun q hq => ?_, s.str.nd⟩
    obtain ⟨a1, a2, a3, a4⟩ := s.str.off q hq
    refine ⟨?_, ?_, a3, a4⟩
    · show addG y.G lv p o lv q.1 = none
      rw [addG_top (Nat.le_refl _), upd_ne (Ne.symm (h4 q hq).1)]; exact a1
    · show addG y.G lv p o lv q.2 = none
      rw [addG_top (Nat.le_refl _), upd_ne (Ne.symm (h4 q hq).2)]; exact a2
theorem rp_add {y : Dy} {lv : Nat} {f : Fl} {p : Addr} {xs : List D} {vs : List V} (k : Gok y.G lv) (hn : y.G lv p = none) (h : Rps y.sx (regm y.G lv f) xs vs) :
    Rp y.sx (regm (addG y.G lv p (.lst vs)) lv (f.join (.at lv))) (.lst xs) (.ref p) := by
  have k' : Gok (addG y.G lv p (.lst vs)) lv := k.add hn
  simp only [Rp]
  refine ⟨p, vs, rfl, regm_in (by rw [addG_top (Nat.le_refl _), upd_same]) ?_ ?_, ?_⟩
  · by_cases hz : min f.lo lv = 0
    · exact .inl hz
    · right
      show addG y.G lv p (.lst vs) (min f.lo lv - 1) p = none
      rw [addG_low (by omega)]
      exact (k.mono _ lv (by omega)).none hn
  · show addG y.G lv p (.lst vs) (max f.hi lv) p ≠ none
    rw [addG_top (by omega), upd_same]; exact fun z => by cases z
  · exact Rps.mono (Pre.refl _) ((regm_mono k k' (Gext.add hn)).trans (regm_join_l k')) _ _ h
theorem rp_addT {y : Dy} {lv : Nat} {f : Fl} {p : Addr} {xs : List D} {vs : List V} (k : Gok y.G lv) (hn : y.G lv p = none) (h : Rps y.sx (regm y.G lv f) xs vs) :
    Rp y.sx (regm (addG y.G lv p (.tup vs)) lv (f.join (.at lv))) (.tup xs) (.ref p) := by
  have k' : Gok (addG y.G lv p (.tup vs)) lv := k.add hn
  simp only [Rp]
  exact ⟨p, vs, rfl, regm_tup (by rw [addG_top (Nat.le_refl _), upd_same]), Rps.mono (Pre.refl _) ((regm_mono k k' (Gext.add hn)).trans (regm_join_l k')) _ _ h⟩
/-- slot i is no owner any more: it holds these data -/
theorem SR.slot {y : Dy} {lv : Nat} {c : C} {σ : L2.St} {H : Hp} {i : Nat} {f : Fl} {d : D} {v : V} (s : SR y lv c σ H) (hv : σ[i]? = some (some v)) (r : Rp y.sx (regm y.G lv f) d v) :
    SR y lv { c with r := c.r.set i (.sh f d) } σ H := by
  refine ⟨s.pos, s.zb, s.g, s.top, s.prot, s.old, s.fresh, fun j sl hj => ?_, fun j k p h1 h2 => ?_, s.str, by simpa using s.len⟩
  · have hj : (c.r.set i (.sh f d))[j]? = some sl := hj
    by_cases hij : i = j
    · subst hij
      have hi : i < c.r.length := by
        have := (List.getElem?_eq_some_iff.mp hj).1
        simpa using this
      rw [List.getElem?_set_self hi] at hj
      cases hj
      exact ⟨v, getD_some.mpr hv, r⟩
    · rw [List.getElem?_set_ne hij] at hj; exact s.slots j sl hj
  · have back : ∀ {j : Nat}, OwnAt { c with r := c.r.set i (.sh f d) } σ j p → OwnAt c σ j p := fun {j} ⟨⟨g, e, h⟩, h'⟩ => by
      have h : (c.r.set i (.sh f d))[j]? = some (.ow g e) := h
      by_cases hij : i = j
      · subst hij
        have hi : i < c.r.length := by
          have := (List.getElem?_eq_some_iff.mp h).1
          simpa using this
        rw [List.getElem?_set_self hi] at h; cases h
      · rw [List.getElem?_set_ne hij] at h; exact ⟨⟨g, e, h⟩, h'⟩
    exact s.inj j k p (back h1) (back h2)
/-- a name is stored: data -/
theorem SR.store {y : Dy} {lv : Nat} {c : C} {σ : L2.St} {H : Hp} {i : Nat} {f : Fl} {d : D} {v : V} (s : SR y lv c σ H) (r : Rp y.sx (regm y.G lv f) d v) :
    SR y lv { c with r := c.r.set i (.sh f d) } (σ.set i (some v)) H := by
  refine ⟨s.pos, s.zb, s.g, s.top, s.prot, s.old, s.fresh, fun j sl hj => ?_, fun j k p h1 h2 => ?_, s.str, by simpa using s.len⟩
  · have hj : (c.r.set i (.sh f d))[j]? = some sl := hj
    by_cases hij : i = j
    · subst hij
      have hi : i < c.r.length := by
        have := (List.getElem?_eq_some_iff.mp hj).1
        simpa using this
      rw [List.getElem?_set_self hi] at hj
      cases hj
      exact ⟨v, getD_set_self (by rw [← s.len]; exact hi), r⟩
    · rw [List.getElem?_set_ne hij] at hj
      rw [getD_set_ne hij]; exact s.slots j sl hj
  · have back : ∀ {j : Nat}, OwnAt { c with r := c.r.set i (.sh f d) } (σ.set i (some v)) j p → OwnAt c σ j p := fun {j} ⟨⟨g, e, h⟩, h'⟩ => by
      have h : (c.r.set i (.sh f d))[j]? = some (.ow g e) := h
      by_cases hij : i = j
      · subst hij
        have hi : i < c.r.length := by
          have := (List.getElem?_eq_some_iff.mp h).1
          simpa using this
        rw [List.getElem?_set_self hi] at h; cases h
      · rw [List.getElem?_set_ne hij] at h h'; exact ⟨⟨g, e, h⟩, h'⟩
    exact s.inj j k p (back h1) (back h2)
/-- a name is stored: it owns a new thing -/
theorem SR.own {y : Dy} {lv : Nat} {c : C} {σ : L2.St} {H : Hp} {i : Nat} {f : Fl} {d : D} {p : Addr} (s : SR y lv c σ H) (r : OwnR y lv H f d p) (n : ∀ j, ¬ OwnAt c σ j p) :
    SR y lv { c with r := c.r.set i (.ow f d) } (σ.set i (some (.ref p))) H := by
  refine ⟨s.pos, s.zb, s.g, s.top, s.prot, s.old, s.fresh, fun j sl hj => ?_, fun j k q h1 h2 => ?_, s.str, by simpa using s.len⟩
  · have hj : (c.r.set i (.ow f d))[j]? = some sl := hj
    by_cases hij : i = j
    · subst hij
      have hi : i < c.r.length := by
        have := (List.getElem?_eq_some_iff.mp hj).1
        simpa using this
      rw [List.getElem?_set_self hi] at hj
      cases hj
      exact ⟨p, getD_set_self (by rw [← s.len]; exact hi), r⟩
    · rw [List.getElem?_set_ne hij] at hj
      rw [getD_set_ne hij]; exact s.slots j sl hj
  · have back : ∀ {j : Nat}, OwnAt { c with r := c.r.set i (.ow f d) } (σ.set i (some (.ref p))) j q → (j = i ∧ q = p) ∨ (j ≠ i ∧ OwnAt c σ j q) := fun {j} ⟨⟨g, e, h⟩, h'⟩ => by
      have h : (c.r.set i (.ow f d))[j]? = some (.ow g e) := h
      by_cases hij : i = j
      · subst hij
        have hi : i < σ.length := by
          have := (List.getElem?_eq_some_iff.mp h').1
          simpa using this
        rw [List.getElem?_set_self hi] at h'
        cases h'
        exact .inl ⟨rfl, rfl⟩
      · rw [List.getElem?_set_ne hij] at h h'; exact .inr ⟨Ne.symm hij, ⟨g, e, h⟩, h'⟩
    rcases back h1 with ⟨a1, a2⟩ | ⟨a1, a2⟩ <;> rcases back h2 with ⟨b1, b2⟩ | ⟨b1, b2⟩
    · rw [a1, b1]
    · subst a2; exact absurd b2 (n k)
    · subst b2; exact absurd a2 (n j)
    · exact s.inj j k q a2 b2
/-- slot i is forgotten -/
theorem SR.forget {y : Dy} {lv : Nat} {c : C} {σ : L2.St} {H : Hp} {i : Nat} (s : SR y lv c σ H) (o : Option V) : SR y lv { c with r := c.r.set i .un } (σ.set i o) H := by
  refine ⟨s.pos, s.zb, s.g, s.top, s.prot, s.old, s.fresh, fun j sl hj => ?_, fun j k p h1 h2 => ?_, s.str, by simpa using s.len⟩
  · have hj : (c.r.set i .un)[j]? = some sl := hj
    by_cases hij : i = j
    · subst hij
      have hi : i < c.r.length := by
        have := (List.getElem?_eq_some_iff.mp hj).1
        simpa using this
      rw [List.getElem?_set_self hi] at hj
      cases hj
      trivial
    · rw [List.getElem?_set_ne hij] at hj
      rw [getD_set_ne hij]; exact s.slots j sl hj
  · have back : ∀ {j : Nat}, OwnAt { c with r := c.r.set i .un } (σ.set i o) j p → OwnAt c σ j p := fun {j} ⟨⟨g, e, h⟩, h'⟩ => by
      have h : (c.r.set i .un)[j]? = some (.ow g e) := h
      by_cases hij : i = j
      · subst hij
        have hi : i < c.r.length := by
          have := (List.getElem?_eq_some_iff.mp h).1
          simpa using this
        rw [List.getElem?_set_self hi] at h; cases h
      · rw [List.getElem?_set_ne hij] at h h'; exact ⟨⟨g, e, h⟩, h'⟩
    exact s.inj j k p (back h1) (back h2)
/-- the list that slot i owns is changed -/
theorem SR.change {y : Dy} {lv : Nat} {c : C} {σ : L2.St} {H : Hp} {i : Nat} {f g : Fl} {d : D} {p : Addr} {xs : List D} {vs : List V} (s : SR y lv c σ H) (hi : c.r[i]? = some (.ow f d)) (hp : σ[i]? = some (some (.ref p))) (r : Rps y.sx (regm y.G lv g) xs vs) :
    SR y lv { c with r := c.r.set i (.ow g (.lst xs)) } σ (upd H p (.lst vs)) := by
  obtain ⟨q, e1, o1, o2, o3, o4, o5⟩ := s.slots i _ hi
  rw [getD_some.mpr hp] at e1
  cases e1
  have hil : i < c.r.length := (List.getElem?_eq_some_iff.mp hi).1
  have ownback : ∀ {j : Nat} {q : Addr}, OwnAt { c with r := c.r.set i (.ow g (.lst xs)) } σ j q → OwnAt c σ j q := fun {j q} ⟨⟨k, e, h⟩, h'⟩ => by
    have h : (c.r.set i (.ow g (.lst xs)))[j]? = some (.ow k e) := h
    by_cases hij : i = j
    · subst hij; exact ⟨⟨f, d, hi⟩, h'⟩
    · rw [List.getElem?_set_ne hij] at h; exact ⟨⟨k, e, h⟩, h'⟩
  refine ⟨s.pos, s.zb, s.g, s.top.upd_new o1, s.prot.upd_new o2, fun a h z => ?_, s.fresh, fun j sl hj => ?_, fun j k q h1 h2 => s.inj j k q (ownback h1) (ownback h2), ?_, by simpa using s.len⟩
  · by_cases ha : a = p
    · subst ha; rw [upd_same] at z; cases z
    · rw [upd_ne ha] at z; exact s.old a h z
  · have hj : (c.r.set i (.ow g (.lst xs)))[j]? = some sl := hj
    by_cases hij : i = j
    · subst hij
      rw [List.getElem?_set_self hil] at hj
      cases hj
      exact ⟨p, getD_some.mpr hp, o1, o2, o3, o4, vs, upd_same, r⟩
    · rw [List.getElem?_set_ne hij] at hj
      cases sl with
      | un => trivial
      | sh f d => exact s.slots j _ hj
      | ow k e =>
        obtain ⟨q, e1, q1, q2, q3, q4, q5⟩ := s.slots j _ hj
        have hq : q ≠ p := fun z => hij (s.inj i j p ⟨⟨f, d, hi⟩, hp⟩ ⟨⟨k, e, hj⟩, getD_some.mp (by rw [← z]; exact e1)⟩)
        refine ⟨q, e1, q1, q2, q3, q4, ?_⟩
        cases e <;> first | exact q5.elim | (obtain ⟨ws, a, b⟩ := q5; exact ⟨ws, by rw [upd_ne hq]; exact a, b⟩)
  · refine ⟨s.str.len, fun k q t h1 h2 => ?_, s.str.off, s.str.nd⟩
    have hq := o4 q (List.mem_of_getElem? h1)
    rw [upd_ne (Ne.symm hq.1), upd_ne (Ne.symm hq.2)]
    exact s.str.at_ k q t h1 h2
end Sd

/-! Sd4: readings by the evaluator. -/
namespace Sd
open PySem PySem.Spec PyProof.Rows L2

def Post {α : Type} (o : Out α) (W : Exn → C → Prop) (K : α → C → Prop) : Prop := match o with
  | .ok a c => K a c
  | .exc e c => W e c
  | .stuck => False
theorem Post.bind {α β : Type} {o : Out α} {f : α → C → Out β} {W : Exn → C → Prop} {K : β → C → Prop} : Post (o.bind f) W K = Post o W fun a c => Post (f a c) W K := by
  cases o <;> rfl
theorem Post.imp {α : Type} {o : Out α} {W W' : Exn → C → Prop} {K K' : α → C → Prop} (h : Post o W K) (hw : ∀ e c, W e c → W' e c) (hk : ∀ a c, K a c → K' a c) : Post o W' K' := by
  cases o with
  | ok a c => exact hk _ _ h
  | exc e c => exact hw _ _ h
  | stuck => exact h
theorem Post.ofOpt {α : Type} {o : Option α} {c : C} {W : Exn → C → Prop} {K : α → C → Prop} : Post (Sd.ofOpt o c) W K = ∃ a, o = some a ∧ K a c := by
  cases o with
  | none => simp [Sd.ofOpt, Post]
  | some a => simp [Sd.ofOpt, Post]

/-- the package's error classes: where each stands, its field -/
abbrev Ct := Str → Option (Addr × Str)
/-- an error as it lies -/
def ExR (ct : Ct) (y : Dy) (lv : Nat) (H : Hp) (e : Exn) (cv : Value) (d : Option Addr) : Prop :=
  ∃ C fld dx v, ct e.cls = some (C, fld) ∧ cv = .ref C ∧ d = some dx ∧ H dx = some (.xd [(fld, v)]) ∧ Rp y.sx (regm y.G lv e.fl) e.arg v
/-- what is wished of an error -/
def XW (ct : Ct) (lv : Nat) (y : Dy) (σ : L2.St) (W : WX) : Exn → C → Prop := fun e c' =>
  ∀ y' H' cv d, Ext y lv y' → SR y' lv c' σ H' → ExR ct y' lv H' e cv d → W cv d σ H'
theorem XW.ext {ct : Ct} {lv : Nat} {y y' : Dy} {σ : L2.St} {W : WX} (x : Ext y lv y') : ∀ e c, XW ct lv y σ W e c → XW ct lv y' σ W e c :=
  fun e c h y2 H' cv d x2 s r => h y2 H' cv d (x.trans x2) s r

/-- a tuple, in the heap and in a region -/
def TupAt (y : Dy) (lv : Nat) (H : Hp) (a : Addr) (vs : List V) : Prop := H a = some (.tup vs) ∧ y.G lv a = some (.tup vs)
/-- the data as they lie in the heap of now -/
def Vw (y : Dy) (lv : Nat) (H : Hp) (f : Fl) (d : D) (v : V) : Prop := match d with
  | .lst xs => ∃ a vs, v = .ref a ∧ H a = some (.lst vs) ∧ Rps y.sx (regm y.G lv f) xs vs
  | .tup xs => ∃ a vs, v = .ref a ∧ TupAt y lv H a vs ∧ Rps y.sx (regm y.G lv f) xs vs
  | d => Rp y.sx H d v
theorem Vw.of {y : Dy} {lv : Nat} {H : Hp} {f : Fl} {d : D} {v : V} (t : Sub (y.G lv) H) (h : Rp y.sx (regm y.G lv f) d v) : Vw y lv H f d v := by
  have up : Sub (regm y.G lv f) H := regm_sub.trans t
  cases d with
  | lst xs => simp only [Rp] at h; obtain ⟨a, vs, e, h1, h2⟩ := h; exact ⟨a, vs, e, up _ _ h1, h2⟩
  | tup xs => simp only [Rp] at h; obtain ⟨a, vs, e, h1, h2⟩ := h; exact ⟨a, vs, e, ⟨up _ _ h1, regm_sub _ _ h1⟩, h2⟩
  | _ => exact Rp.mono (Pre.refl _) up _ _ h
theorem RelO.vw {y : Dy} {lv : Nat} {c : C} {σ : L2.St} {H : Hp} {r : R} {v : V} {f : Fl} {d : D} (s : SR y lv c σ H) (h : RelO y lv σ r v) (e : Sd.look c r = some (f, d)) : Vw y lv H f d v := by
  cases r with
  | val g b =>
    simp only [Sd.look, Option.some.injEq, Prod.mk.injEq] at e
    obtain ⟨rfl, rfl⟩ := e
    exact .of s.top h
  | new g b => exact h.elim
  | bor i =>
    simp only [Sd.look] at e
    split at e
    · rename_i g b hs
      cases e
      obtain ⟨p, e1, _, _, _, _, q2⟩ := s.slots i _ hs
      rw [getD_some.mpr h] at e1
      cases e1
      cases d <;> first | exact q2.elim | (obtain ⟨vs, a, b⟩ := q2; exact ⟨p, vs, rfl, a, b⟩)
    · rename_i g b hs
      cases e
      obtain ⟨w, e1, q2⟩ := s.slots i _ hs
      rw [getD_some.mpr h] at e1
      cases e1
      exact .of s.top q2
    · cases e
theorem Vw.rp {y : Dy} {lv : Nat} {H : Hp} {f : Fl} {d : D} {v : V} (t : Sub (y.G lv) H) (h : Vw y lv H f d v) : Rp y.sx H d v := by
  have up : Sub (regm y.G lv f) H := regm_sub.trans t
  cases d with
  | lst xs => obtain ⟨a, vs, e, h1, h2⟩ := h; simp only [Rp]; exact ⟨a, vs, e, h1, Rps.mono (Pre.refl _) up _ _ h2⟩
  | tup xs => obtain ⟨a, vs, e, h1, h2⟩ := h; simp only [Rp]; exact ⟨a, vs, e, h1.1, Rps.mono (Pre.refl _) up _ _ h2⟩
  | _ => exact h

/-! ### a new list, a new tuple -/
theorem SR.alloc {y : Dy} {lv : Nat} {c : C} {σ : L2.St} {H : Hp} (s : SR y lv c σ H) {p : Addr} (o : HO) (h : H p = none) : SR y lv c σ (upd H p o) := s.sub (Sub.to_upd h)
theorem SR.newList {y : Dy} {lv : Nat} {c : C} {σ : L2.St} {H : Hp} (s : SR y lv c σ H) {p : Addr} {f : Fl} {xs : List D} {vs : List V} (h : H p = none) (r : Rps y.sx (regm y.G lv f) xs vs) :
    SR y lv c σ (upd H p (.lst vs)) ∧ RelR y lv c σ (upd H p (.lst vs)) (.new f (.lst xs)) (.ref p) := by
  obtain ⟨h1, h2, h3, h4, h5⟩ := s.gnone h
  exact ⟨s.alloc _ h, p, rfl, ⟨h1, h2, h3, h4, vs, upd_same, r⟩, h5⟩
theorem SR.newTup {y : Dy} {lv : Nat} {c : C} {σ : L2.St} {H : Hp} (s : SR y lv c σ H) {p : Addr} {f : Fl} {xs : List D} {vs : List V} (h : H p = none) (r : Rps y.sx (regm y.G lv f) xs vs) :
    ∃ y', Ext y lv y' ∧ SR y' lv c σ (upd H p (.tup vs)) ∧ Rp y'.sx (regm y'.G lv (f.join (.at lv))) (.tup xs) (.ref p) := by
  obtain ⟨h1, h2, h3, h4, h5⟩ := s.gnone h
  exact ⟨_, Ext.add h1, (s.alloc (.tup vs) h).freeze upd_same h1 h3 h4 h5, rp_addT s.g h1 r⟩
/-- a result in hand is frozen -/
theorem frz_ok {y : Dy} {lv : Nat} {c : C} {σ : L2.St} {H : Hp} {r : R} {v : V} (s : SR y lv c σ H) (h : RelR y lv c σ H r v) {W : Exn → C → Prop} {K : Fl × D → C → Prop} (q : Post (frz lv c r) W K) :
    ∃ f d c' y', K (f, d) c' ∧ Ext y lv y' ∧ SR y' lv c' σ H ∧ Rp y'.sx (regm y'.G lv f) d v := by
  cases r with
  | val f d => exact ⟨f, d, c, y, q, Ext.refl, s, h⟩
  | new f d =>
    obtain ⟨p, rfl, ⟨o1, o2, o3, o4, o5⟩, n⟩ := h
    cases d with
    | lst xs =>
      obtain ⟨vs, a, b⟩ := o5
      exact ⟨_, _, c, _, q, Ext.add o1, s.freeze a o1 o3 o4 n, rp_add s.g o1 b⟩
    | _ => exact o5.elim
  | bor i =>
    simp only [frz] at q
    split at q
    · rename_i f d hs
      obtain ⟨p, e1, o1, o2, o3, o4, o5⟩ := s.slots i _ hs
      rw [getD_some.mpr h] at e1
      cases e1
      cases d with
      | lst xs =>
        obtain ⟨vs, a, b⟩ := o5
        have r' := rp_add s.g o1 b
        -- the slot is no owner any more, then the thing goes into the region
        have k' : Gok (addG y.G lv p (.lst vs)) lv := s.g.add o1
        have x : Ext y lv (y.add lv p (.lst vs)) := Ext.add o1
        have s1 : SR y lv { c with r := c.r.set i .un } σ H := by
          have z := s.forget (i := i) (some (.ref p))
          have e : σ.set i (some (V.ref p)) = σ := by
            refine List.ext_getElem? fun j => ?_
            by_cases hij : i = j
            · subst hij
              have hi := (List.getElem?_eq_some_iff.mp (h : σ[i]? = _)).1
              rw [List.getElem?_set_self hi]; exact (h : σ[i]? = _).symm
            · rw [List.getElem?_set_ne hij]
          rw [e] at z; exact z
        have nown : ∀ j, ¬ OwnAt { c with r := c.r.set i .un } σ j p := fun j ⟨⟨g, e, hj⟩, hj'⟩ => by
          have hj : (c.r.set i .un)[j]? = some (.ow g e) := hj
          by_cases hij : i = j
          · subst hij
            have hi : i < c.r.length := (List.getElem?_eq_some_iff.mp hs).1
            rw [List.getElem?_set_self hi] at hj; cases hj
          · rw [List.getElem?_set_ne hij] at hj
            exact hij (s.inj i j p ⟨⟨f, _, hs⟩, h⟩ ⟨⟨g, e, hj⟩, hj'⟩)
        have s2 := s1.freeze a o1 o3 o4 nown
        have s3 := s2.slot (i := i) (f := f.join (.at lv)) (d := .lst xs) h r'
        have e2 : ({ c with r := (c.r.set i .un).set i (.sh (f.join (.at lv)) (.lst xs)) } : C) = { c with r := c.r.set i (.sh (f.join (.at lv)) (.lst xs)) } := by rw [List.set_set]
        rw [e2] at s3
        exact ⟨_, _, _, _, q, x, s3, r'⟩
      | _ => exact o5.elim
    · rename_i f d hs
      obtain ⟨w, e1, q2⟩ := s.slots i _ hs
      rw [getD_some.mpr h] at e1
      cases e1
      exact ⟨f, d, c, y, q, Ext.refl, s, q2⟩
    · exact q.elim
theorem opd_ok {y : Dy} {lv : Nat} {c : C} {σ : L2.St} {H : Hp} {r : R} {v : V} (s : SR y lv c σ H) (h : RelR y lv c σ H r v) {W : Exn → C → Prop} {K : R → C → Prop} (q : Post (opd lv c r) W K) :
    ∃ r' y', K r' c ∧ Ext y lv y' ∧ SR y' lv c σ H ∧ RelO y' lv σ r' v := by
  cases r with
  | val f d => exact ⟨.val f d, y, q, Ext.refl, s, h⟩
  | new f d =>
    obtain ⟨f', d', c', y', k, x, s', r'⟩ := frz_ok (W := W) (K := fun fd c => K (.val fd.1 fd.2) c) s h q
    have : frz lv c (.new f d) = .ok (f.join (.at lv), d) c := rfl
    obtain ⟨p, rfl, ⟨o1, o2, o3, o4, o5⟩, n⟩ := h
    cases d with
    | lst xs =>
      obtain ⟨vs, a, b⟩ := o5
      exact ⟨_, _, q, Ext.add o1, s.freeze a o1 o3 o4 n, rp_add s.g o1 b⟩
    | _ => exact o5.elim
  | bor i => exact ⟨.bor i, y, q, Ext.refl, s, h⟩

/-! ### readings -/
section
variable (ct : Ct) (cl : Caller) (sg : Sig) (W : WX) (lv : Nat)
/-- an expression's reading -/
def tE (a : IE) : TE := fun σ H Q => ∃ y c, SR y lv c σ H ∧ Post (evE cl sg lv a c) (XW ct lv y σ W) fun r c' => ∀ y' v H', Ext y lv y' → SR y' lv c' σ H' → RelR y' lv c' σ H' r v → Q v H'
/-- a test's -/
def tT (a : IE) : TT := fun σ H Q => ∃ y c, SR y lv c σ H ∧ Post ((evE cl sg lv a c).t lv) (XW ct lv y σ W) fun k c' => ∀ y' H', Ext y lv y' → SR y' lv c' σ H' → Q k H'
/-- operands -/
def tAo (as : List IE) : TA := fun σ H Q => ∃ y c, SR y lv c σ H ∧ Post (evA cl sg lv as c) (XW ct lv y σ W) fun rs c' => ∀ y' vs H', Ext y lv y' → SR y' lv c' σ H' → Paired (RelO y' lv σ) rs vs → Q vs H'
/-- frozen ones -/
def tAf (as : List IE) : TA := fun σ H Q => ∃ y c, SR y lv c σ H ∧ Post (evF cl sg lv as c) (XW ct lv y σ W) fun fd c' => ∀ y' vs H', Ext y lv y' → SR y' lv c' σ H' → Rps y'.sx (regm y'.G lv fd.1) fd.2 vs → Q vs H'
def tAs (as : List IE) : TA := fun σ H Q => ∃ y c, SR y lv c σ H ∧ Post (evS cl sg lv as c) (XW ct lv y σ W) fun fd c' => ∀ y' vs H', Ext y lv y' → SR y' lv c' σ H' → Rps y'.sx (regm y'.G lv fd.1) fd.2 vs → Q vs H'
end
section
variable {ct : Ct} {cl : Caller} {sg : Sig} {W : WX} {lv : Nat} {a : IE} {y : Dy} {c : C} {σ : L2.St} {H : Hp}
theorem toO {Q : VK} (s : SR y lv c σ H) (h : Post ((evE cl sg lv a c).o lv) (XW ct lv y σ W) fun r c' => ∀ y' v H', Ext y lv y' → SR y' lv c' σ H' → RelO y' lv σ r v → Q v H') : tE ct cl sg W lv a σ H Q := by
  refine ⟨y, c, s, ?_⟩
  rw [Out.o, Post.bind] at h
  refine h.imp (fun _ _ z => z) fun r c' k y' v H' x s' rr => ?_
  obtain ⟨r', y2, k2, x2, s2, o⟩ := opd_ok s' rr k
  exact k2 y2 v H' (x.trans x2) s2 o
theorem toZ {Q : VK} (s : SR y lv c σ H) (h : Post ((evE cl sg lv a c).z lv) (XW ct lv y σ W) fun fd c' => ∀ y' v H', Ext y lv y' → SR y' lv c' σ H' → Rp y'.sx (regm y'.G lv fd.1) fd.2 v → Q v H') : tE ct cl sg W lv a σ H Q := by
  refine ⟨y, c, s, ?_⟩
  rw [Out.z, Post.bind] at h
  refine h.imp (fun _ _ z => z) fun r c' k y' v H' x s' rr => ?_
  obtain ⟨f, d, c2, y2, k2, x2, s2, o⟩ := frz_ok s' rr k
  exact k2 y2 v H' (x.trans x2) s2 o
end
theorem _root_.L2.PE.conseq {X : Cx} {e : Expr} {t t' : TE} (h : PE X e t) (i : ∀ σ H Q, t' σ H Q → t σ H Q) : PE X e t' := ⟨fun pins s σ H Q I hw => h.run pins s σ H Q I (i _ _ _ hw)⟩
theorem _root_.L2.PT.conseq {X : Cx} {e : Expr} {t t' : TT} (h : PT X e t) (i : ∀ σ H Q, t' σ H Q → t σ H Q) : PT X e t' := ⟨fun pins s σ H Q I hw => h.run pins s σ H Q I (i _ _ _ hw)⟩
theorem _root_.L2.PW.conseq {X : Cx} {e : Expr} {t t' : TT} (h : PW X e t) (i : ∀ σ H Q, t' σ H Q → t σ H Q) : PW X e t' := ⟨fun wh pins s σ H Q I hw => h.run wh pins s σ H Q I (i _ _ _ hw)⟩
theorem _root_.L2.PA.conseq {X : Cx} {es : List Expr} {t t' : TA} (h : PA X es t) (i : ∀ σ H Q, t' σ H Q → t σ H Q) : PA X es t' := ⟨fun pos pins s σ H Q I hw => h.run pos pins s σ H Q I (i _ _ _ hw)⟩
theorem _root_.L2.PS.conseq {X : Cx} {e : Stmt} {t t' : TS} (h : PS X e t) (i : ∀ D σ H, t' D σ H → t D σ H) : PS X e t' := ⟨fun pins s σ H D I hw => h.run pins s σ H D I (i _ _ _ hw)⟩
theorem _root_.L2.PSs.conseq {X : Cx} {e : List Stmt} {t t' : TS} (h : PSs X e t) (i : ∀ D σ H, t' D σ H → t D σ H) : PSs X e t' := ⟨fun pins s σ H D I hw => h.run pins s σ H D I (i _ _ _ hw)⟩
theorem _root_.L2.PI.conseq {X : Cx} {tg e : Expr} {t t' : TI} (h : PI X tg e t) (i : ∀ σ H R, t' σ H R → t σ H R) : PI X tg e t' := ⟨fun pins s σ H R I hw => h.run pins s σ H R I (i _ _ _ hw)⟩
theorem pe_never {X : Cx} {e : Expr} : PE X e fun _ _ _ => False := ⟨fun _ _ _ _ _ _ h => h.elim⟩
end Sd

/-! Sd5: expressions, one by one. -/
namespace Sd
open PySem PySem.Spec PyProof.Rows L2

section
variable {X : Cx} {ct : Ct} {cl : Caller} {sg : Sig} {W : WX} {lv : Nat} {y : Dy} {c : C} {σ : L2.St} {H : Hp}

/-- a step into an expression, as an operand -/
theorem goO {a : IE} {Q : VK} {F : R → C → Out R} {K : R → C → Prop} (s : SR y lv c σ H) (h : Post (((evE cl sg lv a c).o lv).bind F) (XW ct lv y σ W) K)
    (k : ∀ r c' y' v H', Ext y lv y' → SR y' lv c' σ H' → RelO y' lv σ r v → Post (F r c') (XW ct lv y σ W) K → Q v H') : tE ct cl sg W lv a σ H Q := by
  rw [Post.bind] at h
  exact toO s (h.imp (fun _ _ z => z) fun r c' q y' v H' x s' rr => k r c' y' v H' x s' rr q)
theorem goOB {a : IE} {Q : VK} {β : Type} {F : R → C → Out β} {K : β → C → Prop} (s : SR y lv c σ H) (h : Post (((evE cl sg lv a c).o lv).bind F) (XW ct lv y σ W) K)
    (k : ∀ r c' y' v H', Ext y lv y' → SR y' lv c' σ H' → RelO y' lv σ r v → Post (F r c') (XW ct lv y σ W) K → Q v H') : tE ct cl sg W lv a σ H Q := by
  rw [Post.bind] at h
  exact toO s (h.imp (fun _ _ z => z) fun r c' q y' v H' x s' rr => k r c' y' v H' x s' rr q)
theorem goZ {a : IE} {Q : VK} {β : Type} {F : Fl × D → C → Out β} {K : β → C → Prop} (s : SR y lv c σ H) (h : Post (((evE cl sg lv a c).z lv).bind F) (XW ct lv y σ W) K)
    (k : ∀ fd c' y' v H', Ext y lv y' → SR y' lv c' σ H' → Rp y'.sx (regm y'.G lv fd.1) fd.2 v → Post (F fd c') (XW ct lv y σ W) K → Q v H') : tE ct cl sg W lv a σ H Q := by
  rw [Post.bind] at h
  exact toZ s (h.imp (fun _ _ z => z) fun r c' q y' v H' x s' rr => k r c' y' v H' x s' rr q)
/-- what a continuation of ahead says behind a step -/
theorem KE {y' : Dy} {σ : L2.St} {Q : VK} {r : R} {c' : C} (x : Ext y lv y') (k : ∀ y2 v H2, Ext y lv y2 → SR y2 lv c' σ H2 → RelR y2 lv c' σ H2 r v → Q v H2) : ∀ y2 v H2, Ext y' lv y2 → SR y2 lv c' σ H2 → RelR y2 lv c' σ H2 r v → Q v H2 :=
  fun y2 v H2 x2 => k y2 v H2 (x.trans x2)

/-! ### constants, names -/
theorem val_ok {f : Fl} {d : D} {v : V} (s : SR y lv c σ H) (r : Rp y.sx (regm y.G lv f) d v) : RelR y lv c σ H (rv f d) v := r.nrm
theorem e_non {j pos} : PE X (.Constant .none j pos) (tE ct cl sg W lv .non) := pe_non.conseq fun σ H Q ⟨y, c, s, h⟩ => by
  simp only [evE, Post] at h
  exact h y .non H Ext.refl s (val_ok s (by simp [Rp]))
theorem e_bl {b j pos} : PE X (.Constant (.bool b) j pos) (tE ct cl sg W lv (.bl b)) := pe_bl.conseq fun σ H Q ⟨y, c, s, h⟩ => by
  simp only [evE, Post] at h
  exact h y (.bl b) H Ext.refl s (val_ok s (by simp [Rp]))
theorem e_int {i j pos} : PE X (.Constant (.int i) j pos) (tE ct cl sg W lv (.int i)) := pe_int.conseq fun σ H Q ⟨y, c, s, h⟩ => by
  simp only [evE, Post] at h
  exact h y (.int i) H Ext.refl s (val_ok s (by simp [Rp]))
theorem e_str {x j pos} : PE X (.Constant (.str x) j pos) (tE ct cl sg W lv (.str x)) := pe_str.conseq fun σ H Q ⟨y, c, s, h⟩ => by
  simp only [evE, Post] at h
  exact h y (.str x) H Ext.refl s (val_ok s (by simp [Rp]))
theorem e_var {i : Nat} {x : Str} {pos : Pos} (hN : X.N[i]? = some x) (hv : Vis X.env.scope x) (hd : (x == ("__debug__" : Str)) = false) (hcd : (x == ("__classdict__" : Str)) = false) : PE X (.Name x pos) (tE ct cl sg W lv (.var i)) :=
  (pe_var hN hv hd hcd).conseq fun σ H Q ⟨y, c, s, h⟩ => by
    simp only [evE] at h
    split at h
    · rename_i f d hs
      obtain ⟨v, e, r⟩ := s.slots i _ hs
      exact ⟨v, getD_some.mp e, h y v H Ext.refl s r⟩
    · rename_i f d hs
      obtain ⟨p, e, r⟩ := s.slots i _ hs
      exact ⟨_, getD_some.mp e, h y _ H Ext.refl s (getD_some.mp e)⟩
    · exact h.elim

/-! ### operators -/
theorem mulOk_c {i j : Int} (h : mulOk i j = true) : CMulW i j := by
  simp only [mulOk, Bool.and_eq_true, decide_eq_true_eq] at h
  exact wide_mul h.1 h.2 (by decide) (by decide) (by decide)
theorem divOk_c {i j : Int} (h : divOk j = true) : CDivW i j := by
  simp only [divOk, Bool.and_eq_true, decide_eq_true_eq] at h
  exact wide_div h.1 h.2 (by decide) (by decide)
theorem divOk_p {j : Int} (h : divOk j = true) : 0 < j := by
  simp only [divOk, Bool.and_eq_true, decide_eq_true_eq] at h
  exact h.1
theorem powOk_c {i j : Int} (h : powOk i j = true) : CPow i j := by
  simp only [powOk, Bool.and_eq_true, decide_eq_true_eq] at h
  exact ⟨h.1.1, by omega, h.2⟩
def opE : Op2 → Operator
  | .add => .Add | .sub => .Sub | .mul => .Mult | .fdiv => .FloorDiv | .mod => .Mod | .pow => .Pow
def rBin (K : PySem.W.Frag) : Op2 → R2
  | .add => fun x y H Q => rI0 (fun i j => .int (i + j)) x y H Q ∨ rCat x y H Q ∨ rCatA K x y H Q
  | .sub => rI0 fun i j => .int (i - j)
  | .mul => fun x y H Q => rI CMulW (fun i j => .int (i * j)) x y H Q ∨ rRep x y H Q
  | .fdiv => rI CDivW fun i j => .int (i / j)
  | .mod => rI (fun _ j => 0 < j) fun i j => .int (i % j)
  | .pow => rI CPow fun i j => .int (i ^ j.toNat)
theorem rBin_ok : ∀ o, OpR X (binaryOp (opE o)) (rBin X.K o)
  | .add => op_add.or (op_cat.or op_catA)
  | .sub => op_sub
  | .mul => op_mulW.or op_rep
  | .fdiv => op_fdivW
  | .mod => op_mod
  | .pow => op_pow
theorem intV {y : Dy} {lv : Nat} {H : Hp} {f : Fl} {i : Int} {v : V} (h : Vw y lv H f (.int i) v) : v = .int i := by simpa only [Vw, Rp] using h
theorem blV {y : Dy} {lv : Nat} {H : Hp} {f : Fl} {i : Bool} {v : V} (h : Vw y lv H f (.bl i) v) : v = .bl i := by simpa only [Vw, Rp] using h
theorem nonV {y : Dy} {lv : Nat} {H : Hp} {f : Fl} {v : V} (h : Vw y lv H f .non v) : v = .non := by simpa only [Vw, Rp] using h
theorem strV {y : Dy} {lv : Nat} {H : Hp} {f : Fl} {i : Str} {v : V} (h : Vw y lv H f (.str i) v) : v = .str i := by simpa only [Vw, Rp] using h
theorem SZ_eq : SZ = sizeLine := by rw [sizeLine_eq]; rfl
/-- the data of an operation's outcome as it comes -/
theorem bin_go {K' : PySem.W.Frag} {o : Op2} {d e : D} {f g : Fl} {v w : V} {Q : VK} {K : R → C → Prop} (s : SR y lv c σ H) (hv : Vw y lv H f d v) (hw : Vw y lv H g e w)
    (h : Post (res lv (f.join g) (bin o d e) c) (XW ct lv y σ W) K) (k : ∀ r y' u H', K r c → Ext y lv y' → SR y' lv c σ H' → RelR y' lv c σ H' r u → Q u H') : rBin K' o v w H Q := by
  have int1 : ∀ {i : Int}, K (rv ((f.join g).join (.at lv)) (.int i)) c → Q (.int i) H := fun {i} q => k _ y _ H q Ext.refl s (val_ok s (by simp [Rp]))
  have lst1 : ∀ {xs : List D} {vs : List V} {p : Addr}, K (.new (f.join g) (.lst xs)) c → Rps y.sx (regm y.G lv (f.join g)) xs vs → H p = none → Q (.ref p) (upd H p (.lst vs)) := fun {xs vs p} q r hp => by
    obtain ⟨s', r'⟩ := s.newList hp r
    exact k _ y _ _ q Ext.refl s' r'
  cases o <;> cases d <;> first | exact h.elim | skip
  all_goals (cases e <;> first | exact h.elim | skip)
  · rw [intV hv, intV hw]; exact .inl ⟨_, _, rfl, rfl, int1 h⟩
  · rename_i xs ys
    simp only [bin] at h
    split at h
    · rename_i hz
      obtain ⟨a, vs, rfl, ha, ra⟩ := hv
      obtain ⟨b, ws, rfl, hb, rb⟩ := hw
      have ra' := Rps.mono (Pre.refl _) (regm_join_l (g := g) s.g) _ _ ra
      have rb' := Rps.mono (Pre.refl _) (regm_join_r (f := f) s.g) _ _ rb
      exact .inr (.inl ⟨a, b, vs, ws, rfl, rfl, ha, hb, by rw [ra.length, rb.length, ← SZ_eq]; exact hz, fun p hp => lst1 h (ra'.append rb') hp⟩)
    · exact h.elim
  · rename_i xs ys
    simp only [bin] at h
    split at h
    · rename_i hz
      obtain ⟨a, vs, rfl, ha, ra⟩ := hv
      obtain ⟨b, ws, rfl, hb, rb⟩ := hw
      have ra' := Rps.mono (Pre.refl _) (regm_join_l (g := g) s.g) _ _ ra
      have rb' := Rps.mono (Pre.refl _) (regm_join_r (f := f) s.g) _ _ rb
      have at_ : ∀ {p us ts}, TupAt y lv H p us → Rps y.sx (regm y.G lv (f.join g)) ts us → Rp y.sx (regm y.G lv ((f.join g).join (.at lv))) (.tup ts) (.ref p) := fun {p us ts} h1 h2 => by
        simp only [Rp]
        exact ⟨p, us, rfl, regm_tup h1.2, Rps.mono (Pre.refl _) (regm_join_l s.g) _ _ h2⟩
      refine .inr (.inr ⟨a, b, vs, ws, rfl, rfl, .of ha.1, .of hb.1, by rw [ra.length, rb.length, ← SZ_eq]; exact hz, fun e => ?_, fun _ e => ?_, fun _ _ p hp => ?_⟩)
      · have e2 : xs = [] := by cases xs with
          | nil => rfl
          | cons x r => have := ra.length; rw [e] at this; simp at this
        subst e2
        exact k _ y _ _ h Ext.refl s (val_ok s (at_ hb rb'))
      · have e2 : ys = [] := by cases ys with
          | nil => rfl
          | cons x r => have := rb.length; rw [e] at this; simp at this
        subst e2
        rw [List.append_nil] at h
        exact k _ y _ _ h Ext.refl s (val_ok s (at_ ha ra'))
      · obtain ⟨y2, x2, s2, r2⟩ := s.newTup hp (ra'.append rb')
        exact k _ y2 _ _ h x2 s2 (val_ok s2 r2)
    · exact h.elim
  · rw [intV hv, intV hw]; exact ⟨_, _, rfl, rfl, int1 h⟩
  · simp only [bin] at h
    split at h
    · rename_i hm
      rw [intV hv, intV hw]; exact .inl ⟨_, _, rfl, rfl, mulOk_c hm, int1 h⟩
    · exact h.elim
  · rename_i xs n
    simp only [bin] at h
    split at h
    · rename_i hz
      rw [Bool.and_eq_true, Bool.and_eq_true, rOk_iff, decide_eq_true_iff, decide_eq_true_iff] at hz
      obtain ⟨⟨h0, h1⟩, h2⟩ := hz
      obtain ⟨a, vs, rfl, ha, ra⟩ := hv
      have ra' := Rps.mono (Pre.refl _) (regm_join_l (g := g) s.g) _ _ ra
      rw [intV hw]
      have hs : (SZ : Int) = 16777216 := rfl
      exact .inr ⟨a, n, vs, rfl, rfl, ha, by omega, by omega, by rw [ra.length, ← SZ_eq]; exact h2, fun p hp => lst1 h (ra'.rep n.toNat) hp⟩
    · exact h.elim
  · simp only [bin] at h
    split at h
    · rename_i hm
      rw [intV hv, intV hw]; exact ⟨_, _, rfl, rfl, divOk_c hm, int1 h⟩
    · exact h.elim
  · simp only [bin] at h
    split at h
    · rename_i hm
      rw [intV hv, intV hw]; exact ⟨_, _, rfl, rfl, divOk_p hm, int1 h⟩
    · exact h.elim
  · simp only [bin] at h
    split at h
    · rename_i hm
      rw [intV hv, intV hw]; exact ⟨_, _, rfl, rfl, powOk_c hm, int1 h⟩
    · exact h.elim
theorem e_op2 {o : Op2} {a b : IE} {l r : Expr} {pos : Pos} (ha : PE X l (tE ct cl sg W lv a)) (hb : PE X r (tE ct cl sg W lv b)) : PE X (.BinOp l (opE o) r pos) (tE ct cl sg W lv (.op2 o a b)) :=
  (pe_op (rBin_ok o) ha hb).conseq fun σ H Q ⟨y, c, s, h⟩ => by
    simp only [evE] at h
    refine goO s h fun ra c1 y1 v H1 x1 s1 r1 q1 => ?_
    refine goO s1 (q1.imp (XW.ext x1) fun _ _ z => z) fun rb c2 y2 w H2 x2 s2 r2 q2 => ?_
    split at q2
    · rename_i f d g e h1 h2
      exact bin_go (ct := ct) (W := W) (K := fun r c' => ∀ y' v H', Ext y lv y' → SR y' lv c' σ H' → RelR y' lv c' σ H' r v → Q v H') s2 ((r1.ext x2 s1 s2).vw s2 h1) (r2.vw s2 h2) (q2.imp (XW.ext x2) fun _ _ z => z)
        fun r y' u H' k x s' r' => k y' u H' ((x1.trans x2).trans x) s' r'
    · exact q2.elim
end
end Sd

/-! Sd6: comparisons, tests. -/
namespace Sd
open PySem PySem.Spec PyProof.Rows L2

/-! ### equality -/
theorem toPys_map : ∀ ds : List D, toPys ds = ds.map toPy
  | [] => rfl
  | d :: ds => by simp only [toPys, List.map_cons, toPys_map ds]
mutual
theorem eqD_py : ∀ (x y : D) (n m : Nat), eqOk n x = true → eqOk m y = true → eqD x y = PyData.eqv (toPy x) (toPy y)
  | .non, y, _, m, _, h => by cases y <;> cases m <;> simp_all [eqD, toPy, PyData.eqv, eqOk]
  | .bl a, y, _, m, _, h => by cases y <;> cases m <;> simp_all [eqD, toPy, PyData.eqv, eqOk]
  | .int a, y, _, m, _, h => by cases y <;> cases m <;> simp_all [eqD, toPy, PyData.eqv, eqOk]
  | .str a, y, _, m, _, h => by cases y <;> cases m <;> simp_all [eqD, toPy, PyData.eqv, eqOk]
  | .lst xs, y, n, m, h, k => by
    cases n with
    | zero => simp [eqOk] at h
    | succ n =>
      cases y with
      | lst ys =>
        cases m with
        | zero => simp [eqOk] at k
        | succ m => simp only [eqD, toPy, PyData.eqv]; exact eqDs_py xs ys n m (by simpa [eqOk] using h) (by simpa [eqOk] using k)
      | _ => cases m <;> simp_all [eqD, toPy, PyData.eqv, eqOk]
  | .tup xs, y, n, m, h, k => by
    cases n with
    | zero => simp [eqOk] at h
    | succ n =>
      cases y with
      | tup ys =>
        cases m with
        | zero => simp [eqOk] at k
        | succ m => simp only [eqD, toPy, PyData.eqv]; exact eqDs_py xs ys n m (by simpa [eqOk] using h) (by simpa [eqOk] using k)
      | _ => cases m <;> simp_all [eqD, toPy, PyData.eqv, eqOk]
  | .dic a b, y, n, m, h, _ => by cases n <;> simp [eqOk] at h
  | .stm a, y, n, m, h, _ => by cases n <;> simp [eqOk] at h
  | .obj a, y, n, m, h, _ => by cases n <;> simp [eqOk] at h
theorem eqDs_py : ∀ (xs ys : List D) (n m : Nat), eqOks n xs = true → eqOks m ys = true → eqDs xs ys = PyData.eqvAll (toPys xs) (toPys ys)
  | [], [], _, _, _, _ => by simp [eqDs, toPys, PyData.eqvAll]
  | [], y :: ys, _, _, _, _ => by simp [eqDs, toPys, PyData.eqvAll]
  | x :: xs, [], _, _, _, _ => by simp [eqDs, toPys, PyData.eqvAll]
  | x :: xs, y :: ys, n, m, h, k => by
    simp only [eqOks, Bool.and_eq_true] at h k
    simp only [eqDs, toPys, PyData.eqvAll, eqD_py x y n m h.1 k.1, eqDs_py xs ys n m h.2 k.2]
end
mutual
theorem dp_of (K : PySem.W.Frag) {sx : List (Addr × Addr)} {H : Hp} : ∀ (d : D) (v : V) (n : Nat), eqOk n d = true → Rp sx H d v → Dp K H v (toPy d)
  | .non, v, _, _, h => by simp only [Rp] at h; subst h; exact .non
  | .bl b, v, _, _, h => by simp only [Rp] at h; subst h; exact .bl b
  | .int i, v, _, _, h => by simp only [Rp] at h; subst h; exact .int i
  | .str x, v, _, _, h => by simp only [Rp] at h; subst h; exact .str x
  | .lst xs, v, n, e, h => by
    simp only [Rp] at h
    obtain ⟨a, vs, rfl, h1, h2⟩ := h
    cases n with
    | zero => simp [eqOk] at e
    | succ n => exact .lst (.of h1) (dps_of K xs vs n (by simpa [eqOk] using e) h2)
  | .tup xs, v, n, e, h => by
    simp only [Rp] at h
    obtain ⟨a, vs, rfl, h1, h2⟩ := h
    cases n with
    | zero => simp [eqOk] at e
    | succ n => exact .tup (.of h1) (dps_of K xs vs n (by simpa [eqOk] using e) h2)
  | .dic a b, v, n, e, h => by cases n <;> simp [eqOk] at e
  | .stm g, v, n, e, h => by cases n <;> simp [eqOk] at e
  | .obj g, v, n, e, h => by cases n <;> simp [eqOk] at e
theorem dps_of (K : PySem.W.Frag) {sx : List (Addr × Addr)} {H : Hp} : ∀ (ds : List D) (vs : List V) (n : Nat), eqOks n ds = true → Rps sx H ds vs → DpAll K H vs (toPys ds)
  | [], vs, _, _, h => by simp only [Rps] at h; subst h; exact .nil
  | d :: ds, vs, n, e, h => by
    obtain ⟨v, r, rfl, h1, h2⟩ := h.inv
    simp only [eqOks, Bool.and_eq_true] at e
    exact .cons (dp_of K d v n e.1 h1) (dps_of K ds r n e.2 h2)
end
mutual
theorem lay_of : ∀ (d : D) (n : Nat), eqOk n d = true → PyData.canLay0 (toPy d) = true ∧ (toPy d).depth ≤ n
  | .non, _, _ => by simp [toPy, PyData.canLay0, PyData.depth]
  | .bl b, _, _ => by simp [toPy, PyData.canLay0, PyData.depth]
  | .int i, _, _ => by simp [toPy, PyData.canLay0, PyData.depth]
  | .str x, n, h => by cases n <;> (simp only [eqOk] at h; simp [toPy, PyData.canLay0, PyData.depth, h])
  | .lst xs, n, h => by
    cases n with
    | zero => simp [eqOk] at h
    | succ n =>
      have z := lays_of xs n (by simpa [eqOk] using h)
      simp only [toPy, PyData.canLay0, PyData.depth]
      exact ⟨z.1, by omega⟩
  | .tup xs, n, h => by
    cases n with
    | zero => simp [eqOk] at h
    | succ n =>
      have z := lays_of xs n (by simpa [eqOk] using h)
      simp only [toPy, PyData.canLay0, PyData.depth]
      exact ⟨z.1, by omega⟩
  | .dic a b, n, h => by cases n <;> simp [eqOk] at h
  | .stm a, n, h => by cases n <;> simp [eqOk] at h
  | .obj a, n, h => by cases n <;> simp [eqOk] at h
theorem lays_of : ∀ (ds : List D) (n : Nat), eqOks n ds = true → PyData.canLayAll0 (toPys ds) = true ∧ PyData.depthAll (toPys ds) ≤ n
  | [], _, _ => by simp [toPys, PyData.canLayAll0, PyData.depthAll]
  | d :: ds, n, h => by
    simp only [eqOks, Bool.and_eq_true] at h
    have a := lay_of d n h.1
    have b := lays_of ds n h.2
    simp only [toPys, PyData.canLayAll0, PyData.depthAll, a.1, b.1, Bool.and_self, true_and]
    omega
end
theorem shaped_of {d : D} (h : eqOk 60 d = true) : SeqAt.shaped (toPy d) = true := by
  have z := lay_of d 60 h
  simp only [SeqAt.shaped, z.1, Bool.true_and, decide_eq_true_eq]
  omega
theorem scalD_ok {d : D} {n : Nat} (h : eqOk n d = true) (s : scalD d = true) : True := trivial
theorem flat_of {sx : List (Addr × Addr)} {H : Hp} {d : D} {v : V} (s : scalD d = true) (h : Rp sx H d v) : flatV v = true := by
  cases d <;> first | (simp [scalD] at s; done) | (simp only [Rp] at h; subst h; rfl)
theorem eqV_of {sx : List (Addr × Addr)} {H : Hp} {d e : D} {v w : V} (s : scalD d = true) (t : scalD e = true) (h : Rp sx H d v) (k : Rp sx H e w) : eqV v w = eqD d e := by
  cases d <;> first | (simp [scalD] at s; done) | skip
  all_goals (cases e <;> first | (simp [scalD] at t; done) | skip)
  all_goals (simp only [Rp] at h k; subst h k; simp only [eqV, eqD])
theorem flats_of {sx : List (Addr × Addr)} {H : Hp} : ∀ {ds : List D} {vs : List V}, ds.all scalD = true → Rps sx H ds vs → vs.all flatV = true
  | [], _, _, h => by simp only [Rps] at h; subst h; rfl
  | d :: ds, _, s, h => by
    obtain ⟨v, r, rfl, h1, h2⟩ := h.inv
    simp only [List.all_cons, Bool.and_eq_true] at s
    simp only [List.all_cons, flat_of s.1 h1, flats_of s.2 h2, Bool.and_self]
theorem inV_of {sx : List (Addr × Addr)} {H : Hp} {x : D} {v : V} (sx' : scalD x = true) (hx : Rp sx H x v) : ∀ {ds : List D} {vs : List V}, ds.all scalD = true → Rps sx H ds vs → inV v vs = ds.any (eqD · x)
  | [], _, _, h => by simp only [Rps] at h; subst h; rfl
  | d :: ds, _, s, h => by
    obtain ⟨w, r, rfl, h1, h2⟩ := h.inv
    simp only [List.all_cons, Bool.and_eq_true] at s
    have ih := inV_of sx' hx s.2 h2
    simp only [inV] at ih ⊢
    simp only [List.any_cons, eqV_of s.1 sx' h1 hx, ih]
theorem anyPy {x : D} (hx : eqOk 60 x = true) : ∀ {ys : List D} {n : Nat}, eqOks n ys = true → ((toPys ys).any fun z => PyData.eqv z (toPy x)) = ys.any (eqD · x)
  | [], _, _ => rfl
  | y :: ys, n, h => by
    simp only [eqOks, Bool.and_eq_true] at h
    simp only [toPys, List.any_cons, anyPy hx h.2, eqD_py y x n 60 h.1 hx]

section
variable {X : Cx} {ct : Ct} {cl : Caller} {sg : Sig} {W : WX} {lv : Nat} {y : Dy} {c : C} {σ : L2.St} {H : Hp}
def cmE : Cm → CmpOp
  | .eq => .Eq | .ne => .NotEq | .lt => .Lt | .le => .LtE | .gt => .Gt | .ge => .GtE | .inn => .In | .nin => .NotIn
def rCmp (K : PySem.W.Frag) : Cm → R2
  | .eq => rEqD K
  | .ne => rNeD K
  | .lt => fun x y H Q => rI0 (fun i j => .bl (decide (i < j))) x y H Q ∨ rLtT K x y H Q
  | .le => fun x y H Q => rI0 (fun i j => .bl (decide (i ≤ j))) x y H Q ∨ rLeT K x y H Q
  | .gt => rI0 fun i j => .bl (decide (j < i))
  | .ge => rI0 fun i j => .bl (decide (j ≤ i))
  | .inn => fun x y H Q => rInD K x y H Q ∨ rIn K false x y H Q
  | .nin => fun x y H Q => rNotInD K x y H Q ∨ rIn K true x y H Q
theorem rCmp_ok {k : Nat} (hr : Room k X.A) : ∀ o, OpR X (compareOp (cmE o)) (rCmp X.K o)
  | .eq => op_eqD hr.units
  | .ne => op_neD hr.units
  | .lt => op_lt.or (op_ltT (Nat.lt_of_le_of_lt (Nat.le_add_right _ 64) hr.units))
  | .le => op_le.or (op_leT (Nat.lt_of_le_of_lt (Nat.le_add_right _ 64) hr.units))
  | .gt => op_gt
  | .ge => op_ge
  | .inn => (op_inD (by have := hr.un; omega)).or op_in_seq
  | .nin => (op_notInD (by have := hr.un; omega)).or op_notIn_seq
theorem Vw.rps {y : Dy} {lv : Nat} {H : Hp} {f : Fl} {xs : List D} {vs : List V} (t : Sub (y.G lv) H) (h : Rps y.sx (regm y.G lv f) xs vs) : Rps y.sx H xs vs := Rps.mono (Pre.refl _) (regm_sub.trans t) _ _ h
theorem Vw.intsT {y : Dy} {lv : Nat} {H : Hp} {f : Fl} {xs : List D} {ns : List Int} {v : V} (t : Sub (y.G lv) H) (h : Vw y lv H f (.tup xs) v) (e : intsOf xs = some ns) : ∃ a, v = .ref a ∧ H a = some (.tup (ns.map V.int)) := by
  obtain ⟨a, vs, rfl, ha, ra⟩ := h
  rw [intsOf_inv e] at ra
  rw [Rps.ints_inv ra] at ha
  exact ⟨a, rfl, ha.1⟩
theorem cmp_go {K : PySem.W.Frag} {o : Cm} {d e : D} {f g : Fl} {v w : V} {Q : VK} {k : Bool} (t : Sub (y.G lv) H) (hv : Vw y lv H f d v) (hw : Vw y lv H g e w) (h : cmpD o d e = some k) (q : Q (.bl k) H) : rCmp K o v w H Q := by
  have rv := hv.rp t
  have rw' := hw.rp t
  cases o with
  | eq =>
    simp only [cmpD] at h
    split at h
    · rename_i z
      simp only [Bool.and_eq_true] at z
      cases h
      rw [eqD_py d e 60 60 z.1 z.2] at q
      exact ⟨_, _, dp_of K d v 60 z.1 rv, dp_of K e w 60 z.2 rw', shaped_of z.1, shaped_of z.2, q⟩
    · cases h
  | ne =>
    simp only [cmpD] at h
    split at h
    · rename_i z
      simp only [Bool.and_eq_true] at z
      cases h
      rw [eqD_py d e 60 60 z.1 z.2] at q
      exact ⟨_, _, dp_of K d v 60 z.1 rv, dp_of K e w 60 z.2 rw', shaped_of z.1, shaped_of z.2, q⟩
    · cases h
  | lt =>
    cases d <;> first | (simp [cmpD] at h; done) | skip
    · cases e <;> first | (simp [cmpD] at h; done) | skip
      simp only [cmpD, Option.some.injEq] at h
      subst h
      rw [intV hv, intV hw]; exact .inl ⟨_, _, rfl, rfl, q⟩
    · cases e <;> first | (simp [cmpD] at h; done) | skip
      rename_i xs ys
      simp only [cmpD] at h
      cases e1 : intsOf xs with
      | none => rw [e1] at h; cases h
      | some ns =>
        cases e2 : intsOf ys with
        | none => rw [e1, e2] at h; cases h
        | some ms =>
          rw [e1, e2] at h
          cases h
          obtain ⟨a, rfl, ha⟩ := Vw.intsT t hv e1
          obtain ⟨b, rfl, hb⟩ := Vw.intsT t hw e2
          exact .inr ⟨a, b, ns, ms, rfl, rfl, .of ha, .of hb, q⟩
  | le =>
    cases d <;> first | (simp [cmpD] at h; done) | skip
    · cases e <;> first | (simp [cmpD] at h; done) | skip
      simp only [cmpD, Option.some.injEq] at h
      subst h
      rw [intV hv, intV hw]; exact .inl ⟨_, _, rfl, rfl, q⟩
    · cases e <;> first | (simp [cmpD] at h; done) | skip
      rename_i xs ys
      simp only [cmpD] at h
      cases e1 : intsOf xs with
      | none => rw [e1] at h; cases h
      | some ns =>
        cases e2 : intsOf ys with
        | none => rw [e1, e2] at h; cases h
        | some ms =>
          rw [e1, e2] at h
          cases h
          obtain ⟨a, rfl, ha⟩ := Vw.intsT t hv e1
          obtain ⟨b, rfl, hb⟩ := Vw.intsT t hw e2
          exact .inr ⟨a, b, ns, ms, rfl, rfl, .of ha, .of hb, q⟩
  | gt =>
    cases d <;> first | (simp [cmpD] at h; done) | skip
    cases e <;> first | (simp [cmpD] at h; done) | skip
    simp only [cmpD, Option.some.injEq] at h
    subst h
    rw [intV hv, intV hw]; exact ⟨_, _, rfl, rfl, q⟩
  | ge =>
    cases d <;> first | (simp [cmpD] at h; done) | skip
    cases e <;> first | (simp [cmpD] at h; done) | skip
    simp only [cmpD, Option.some.injEq] at h
    subst h
    rw [intV hv, intV hw]; exact ⟨_, _, rfl, rfl, q⟩
  | inn =>
    cases e <;> first | (simp [cmpD] at h; done) | skip
    · rename_i ys
      simp only [cmpD] at h
      split at h
      · rename_i z
        simp only [Bool.and_eq_true] at z
        cases h
        rw [← anyPy z.1 (n := 59) (by simpa [eqOk] using z.2)] at q
        exact .inl ⟨_, _, dp_of K d v 60 z.1 rv, dp_of K (.lst ys) w 60 z.2 rw', shaped_of z.1, shaped_of z.2, q⟩
      · cases h
    · rename_i ys
      simp only [cmpD] at h
      split at h
      · rename_i z
        simp only [Bool.and_eq_true] at z
        cases h
        obtain ⟨a, vs, rfl, ha, ra⟩ := hw
        have ra' := Vw.rps t ra
        rw [← inV_of z.1 rv z.2 ra'] at q
        exact .inr ⟨a, vs, rfl, .inr (.of ha.1), flat_of z.1 rv, flats_of z.2 ra', q⟩
      · cases h
  | nin =>
    cases e <;> first | (simp [cmpD] at h; done) | skip
    · rename_i ys
      simp only [cmpD] at h
      split at h
      · rename_i z
        simp only [Bool.and_eq_true] at z
        cases h
        rw [← anyPy z.1 (n := 59) (by simpa [eqOk] using z.2)] at q
        exact .inl ⟨_, _, dp_of K d v 60 z.1 rv, dp_of K (.lst ys) w 60 z.2 rw', shaped_of z.1, shaped_of z.2, q⟩
      · cases h
    · rename_i ys
      simp only [cmpD] at h
      split at h
      · rename_i z
        simp only [Bool.and_eq_true] at z
        cases h
        obtain ⟨a, vs, rfl, ha, ra⟩ := hw
        have ra' := Vw.rps t ra
        rw [← inV_of z.1 rv z.2 ra'] at q
        exact .inr ⟨a, vs, rfl, .inr (.of ha.1), flat_of z.1 rv, flats_of z.2 ra', q⟩
      · cases h
/-- a truth value handed back -/
theorem bl_ok {k : Bool} (s : SR y lv c σ H) : RelR y lv c σ H (rv Fl.top (.bl k)) (.bl k) := val_ok s (by simp [Rp])
theorem e_cmp {k : Nat} {o : Cm} {a b : IE} {l r : Expr} {pos : Pos} (hr : Room k X.A) (ha : PE X l (tE ct cl sg W lv a)) (hb : PE X r (tE ct cl sg W lv b)) (hm : behindInMarks (cmE o) r = false) :
    PE X (.Compare l [cmE o] [r] pos) (tE ct cl sg W lv (.cmp o a b)) :=
  (pe_cmpR (rCmp_ok hr o) ha hb hm).conseq fun σ H Q ⟨y, c, s, h⟩ => by
    simp only [evE] at h
    refine goO s h fun ra c1 y1 v H1 x1 s1 r1 q1 => ?_
    refine goO s1 (q1.imp (XW.ext x1) fun _ _ z => z) fun rb c2 y2 w H2 x2 s2 r2 q2 => ?_
    split at q2
    · rename_i f d g e h1 h2
      rw [Post.bind, Post.ofOpt] at q2
      obtain ⟨k, e1, q2⟩ := q2
      exact cmp_go s2.top ((r1.ext x2 s1 s2).vw s2 h1) (r2.vw s2 h2) e1 (q2 y2 (.bl k) H2 (x1.trans x2) s2 (bl_ok s2))
    · exact q2.elim
theorem e_neg {a : IE} {e : Expr} {pos : Pos} (ha : PE X e (tE ct cl sg W lv a)) : PE X (.UnaryOp .USub e pos) (tE ct cl sg W lv (.neg a)) :=
  (pe_un un_neg ha).conseq fun σ H Q ⟨y, c, s, h⟩ => by
    simp only [evE] at h
    refine goO s h fun ra c1 y1 v H1 x1 s1 r1 q1 => ?_
    split at q1
    · rename_i f i h1
      exact ⟨i, intV (r1.vw s1 h1), q1 y1 _ H1 x1 s1 (val_ok s1 (by simp [Rp]))⟩
    · exact q1.elim
def isNonD : D → Bool
  | .non => true
  | _ => false
theorem isnon {y : Dy} {lv : Nat} {H : Hp} {f : Fl} {d : D} {v : V} (h : Vw y lv H f d v) : decide (v = V.non) = isNonD d := by
  cases d with
  | non => have := nonV h; subst this; rfl
  | bl b => have := blV h; subst this; rfl
  | int b => have := intV h; subst this; rfl
  | str b => have := strV h; subst this; rfl
  | lst xs => obtain ⟨a, vs, rfl, _⟩ := h; rfl
  | tup xs => obtain ⟨a, vs, rfl, _⟩ := h; rfl
  | dic a b => simp only [Vw, Rp] at h
  | stm g => simp only [Vw, Rp] at h; obtain ⟨p, _, rfl⟩ := h; rfl
  | obj g => simp only [Vw, Rp] at h; subst h; rfl
theorem e_isN {a : IE} {e : Expr} {j pos pos'} (ha : PE X e (tE ct cl sg W lv a)) : PE X (.Compare e [.Is] [.Constant .none j pos'] pos) (tE ct cl sg W lv (.isN a)) :=
  (pe_cmp (pc_isN ha) (by rfl)).conseq fun σ H Q ⟨y, c, s, h⟩ => by
    simp only [evE] at h
    refine goO s h fun ra c1 y1 v H1 x1 s1 r1 q1 => ?_
    split at q1
    · rename_i f h1
      rw [isnon (r1.vw s1 h1)]; exact q1 y1 _ H1 x1 s1 (bl_ok s1)
    · rename_i f d hd h1
      rw [isnon (r1.vw s1 h1)]
      cases d <;> first | exact absurd rfl hd | exact q1 y1 _ H1 x1 s1 (bl_ok s1)
    · exact q1.elim
theorem e_notN {a : IE} {e : Expr} {j pos pos'} (ha : PE X e (tE ct cl sg W lv a)) : PE X (.Compare e [.IsNot] [.Constant .none j pos'] pos) (tE ct cl sg W lv (.notN a)) :=
  (pe_cmp (pc_notN ha) (by rfl)).conseq fun σ H Q ⟨y, c, s, h⟩ => by
    simp only [evE] at h
    refine goO s h fun ra c1 y1 v H1 x1 s1 r1 q1 => ?_
    split at q1
    · rename_i f h1
      rw [isnon (r1.vw s1 h1)]; exact q1 y1 _ H1 x1 s1 (bl_ok s1)
    · rename_i f d hd h1
      rw [isnon (r1.vw s1 h1)]
      cases d <;> first | exact absurd rfl hd | exact q1 y1 _ H1 x1 s1 (bl_ok s1)
    · exact q1.elim
theorem e_chn {k : Nat} {o o' : Cm} {a b d : IE} {l m r : Expr} {pos : Pos} (hr : Room k X.A) (ha : PE X l (tE ct cl sg W lv a)) (hb : PE X m (tE ct cl sg W lv b)) (hd : PE X r (tE ct cl sg W lv d)) (hm : lastMarks [cmE o, cmE o'] [m, r] = false) :
    PE X (.Compare l [cmE o, cmE o'] [m, r] pos) (tE ct cl sg W lv (.chn o o' a b d)) :=
  (pe_chain (rCmp_ok hr o) (rCmp_ok hr o') ha hb hd hm).conseq fun σ H Q ⟨y, c, s, h⟩ => by
    simp only [evE] at h
    refine goO s h fun ra c1 y1 v H1 x1 s1 r1 q1 => ?_
    refine goO s1 (q1.imp (XW.ext x1) fun _ _ z => z) fun rb c2 y2 w H2 x2 s2 r2 q2 => ?_
    split at q2
    · rename_i f x g z h1 h2
      rw [Post.bind, Post.ofOpt] at q2
      obtain ⟨k, e1, q2⟩ := q2
      refine cmp_go s2.top ((r1.ext x2 s1 s2).vw s2 h1) (r2.vw s2 h2) e1 ⟨k, rfl, ?_⟩
      cases k with
      | false =>
        rw [if_neg Bool.false_ne_true]
        exact q2 y2 (.bl false) H2 (x1.trans x2) s2 (bl_ok s2)
      | true =>
        rw [if_pos rfl]
        simp only [if_true] at q2
        refine goO s2 (q2.imp (XW.ext x2) fun _ _ z => z) fun rd c3 y3 u H3 x3 s3 r3 q3 => ?_
        split at q3
        · rename_i f' x' g' z' h3 h4
          rw [Post.bind, Post.ofOpt] at q3
          obtain ⟨k, e2, q3⟩ := q3
          exact cmp_go s3.top ((r2.ext x3 s2 s3).vw s3 h3) (r3.vw s3 h4) e2 (q3 y3 (.bl k) H3 ((x1.trans x2).trans x3) s3 (bl_ok s3))
        · exact q3.elim
    · exact q2.elim

/-! ### tests -/
theorem tru_of {K : PySem.W.Frag} {f : Fl} {d : D} {v : V} {k : Bool} (h : Vw y lv H f d v) (e : tru d = some k) : TruV K v H k := by
  cases d with
  | non => rw [nonV h]; simp only [tru, Option.some.injEq] at e; exact e.symm
  | bl b => rw [blV h]; simp only [tru, Option.some.injEq] at e; exact e.symm
  | int i => rw [intV h]; simp only [tru, Option.some.injEq] at e; exact e.symm
  | str x =>
    rw [strV h]
    simp only [tru] at e
    split at e
    · rename_i hz
      simp only [Option.some.injEq] at e
      refine ⟨by rw [← SZ_eq]; exact hz, ?_⟩
      rw [← e]
      cases hx : x.length with
      | zero => rfl
      | succ n => simp; omega
    · cases e
  | lst xs =>
    obtain ⟨a, vs, rfl, ha, ra⟩ := h
    simp only [tru, Option.some.injEq] at e
    refine .inl ⟨vs, .of ha, ?_⟩
    rw [← e]
    have := ra.length
    cases vs <;> cases xs <;> simp_all
  | tup xs =>
    obtain ⟨a, vs, rfl, ha, ra⟩ := h
    simp only [tru, Option.some.injEq] at e
    refine .inr (.inl ⟨vs, .of ha.1, ?_⟩)
    rw [← e]
    have := ra.length
    cases vs <;> cases xs <;> simp_all
  | dic a b => simp [tru] at e
  | stm g => simp [tru] at e
  | obj g => simp [tru] at e
/-- a test of any other kind: the value's truth -/
theorem t_val {a : IE} {e : Expr} (ha : PE X e (tE ct cl sg W lv a)) (he : ∀ whole, isTrue e X.env whole = (do let v ← whole; standAt e.pos; holding [v] (truthy v))) : PT X e (tT ct cl sg W lv a) :=
  (pt_truth ha he).conseq fun σ H Q ⟨y, c, s, h⟩ => by
    simp only [Out.t] at h
    refine goOB s h fun ra c1 y1 v H1 x1 s1 r1 q1 => ?_
    split at q1
    · rename_i f d h1
      rw [Post.ofOpt] at q1
      obtain ⟨k, e1, q1⟩ := q1
      exact ⟨k, tru_of (r1.vw s1 h1) e1, q1 y1 H1 x1 s1⟩
    · exact q1.elim
theorem t_of {a : IE} {e : Expr} {t : TT} (h : PT X e t) (i : ∀ y c σ H Q, SR y lv c σ H → Post ((evE cl sg lv a c).t lv) (XW ct lv y σ W) (fun k c' => ∀ y' H', Ext y lv y' → SR y' lv c' σ H' → Q k H') → t σ H Q) : PT X e (tT ct cl sg W lv a) :=
  h.conseq fun σ H Q ⟨y, c, s, h⟩ => i y c σ H Q s h
/-- what the truth of an outcome is -/
theorem t_bl {o : Out Bool} {P : Exn → C → Prop} {K : Bool → C → Prop} : Post ((o.bind fun k c => .ok (rv Fl.top (.bl k)) c : Out R).t lv) P K = Post o P K := by
  cases o <;> rfl
theorem t_bind {α : Type} {o : Out α} {f : α → C → Out R} : (o.bind f).t lv = o.bind fun a c => (f a c).t lv := by
  cases o <;> rfl
/-- a step into an operand, within a test -/
theorem goOT {a : IE} {Q : VK} {F : R → C → Out R} {K : Bool → C → Prop} (s : SR y lv c σ H) (h : Post ((((evE cl sg lv a c).o lv).bind F).t lv) (XW ct lv y σ W) K)
    (k : ∀ r c' y' v H', Ext y lv y' → SR y' lv c' σ H' → RelO y' lv σ r v → Post ((F r c').t lv) (XW ct lv y σ W) K → Q v H') : tE ct cl sg W lv a σ H Q := by
  have e : Post ((((evE cl sg lv a c).o lv).bind F).t lv) (XW ct lv y σ W) K = Post ((evE cl sg lv a c).o lv) (XW ct lv y σ W) fun r c' => Post ((F r c').t lv) (XW ct lv y σ W) K := by
    simp only [Out.t, Post.bind]
    cases (evE cl sg lv a c).o lv <;> rfl
  rw [e] at h
  exact toO s (h.imp (fun _ _ z => z) fun r c' q y' v H' x s' rr => k r c' y' v H' x s' rr q)
/-- a comparison as a test -/
theorem t_cmp {k : Nat} {o : Cm} {a b : IE} {l r : Expr} {pos : Pos} (hr : Room k X.A) (ha : PE X l (tE ct cl sg W lv a)) (hb : PE X r (tE ct cl sg W lv b)) (hm : behindInMarks (cmE o) r = false) :
    PT X (.Compare l [cmE o] [r] pos) (tT ct cl sg W lv (.cmp o a b)) :=
  t_of (pt_cmpR (rCmp_ok hr o) ha hb hm) fun y c σ H Q s h => by
    simp only [evE] at h
    refine goOT s h fun ra c1 y1 v H1 x1 s1 r1 q1 => ?_
    refine goOT s1 (q1.imp (XW.ext x1) fun _ _ z => z) fun rb c2 y2 w H2 x2 s2 r2 q2 => ?_
    split at q2
    · rename_i f d g e h1 h2
      rw [t_bl, Post.ofOpt] at q2
      obtain ⟨k, e1, q2⟩ := q2
      exact cmp_go s2.top ((r1.ext x2 s1 s2).vw s2 h1) (r2.vw s2 h2) e1 ⟨k, rfl, q2 y2 H2 (x1.trans x2) s2⟩
    · exact q2.elim
theorem t_isN {a : IE} {e : Expr} {j pos pos'} (ha : PE X e (tE ct cl sg W lv a)) : PT X (.Compare e [.Is] [.Constant .none j pos'] pos) (tT ct cl sg W lv (.isN a)) :=
  t_of (pt_cmp (pc_isN ha) (by rfl)) fun y c σ H Q s h => by
    simp only [evE] at h
    refine goOT s h fun ra c1 y1 v H1 x1 s1 r1 q1 => ?_
    split at q1
    · rename_i f h1
      exact ⟨_, rfl, by rw [isnon (r1.vw s1 h1)]; exact q1 y1 H1 x1 s1⟩
    · rename_i f d hd h1
      refine ⟨_, rfl, ?_⟩
      rw [isnon (r1.vw s1 h1)]
      cases d <;> first | exact absurd rfl hd | exact q1 y1 H1 x1 s1
    · exact q1.elim
theorem t_notN {a : IE} {e : Expr} {j pos pos'} (ha : PE X e (tE ct cl sg W lv a)) : PT X (.Compare e [.IsNot] [.Constant .none j pos'] pos) (tT ct cl sg W lv (.notN a)) :=
  t_of (pt_cmp (pc_notN ha) (by rfl)) fun y c σ H Q s h => by
    simp only [evE] at h
    refine goOT s h fun ra c1 y1 v H1 x1 s1 r1 q1 => ?_
    split at q1
    · rename_i f h1
      exact ⟨_, rfl, by rw [isnon (r1.vw s1 h1)]; exact q1 y1 H1 x1 s1⟩
    · rename_i f d hd h1
      refine ⟨_, rfl, ?_⟩
      rw [isnon (r1.vw s1 h1)]
      cases d <;> first | exact absurd rfl hd | exact q1 y1 H1 x1 s1
    · exact q1.elim
theorem t_chn {k : Nat} {o o' : Cm} {a b d : IE} {l m r : Expr} {pos : Pos} (hr : Room k X.A) (ha : PE X l (tE ct cl sg W lv a)) (hb : PE X m (tE ct cl sg W lv b)) (hd : PE X r (tE ct cl sg W lv d)) (hm : lastMarks [cmE o, cmE o'] [m, r] = false) :
    PT X (.Compare l [cmE o, cmE o'] [m, r] pos) (tT ct cl sg W lv (.chn o o' a b d)) :=
  t_of (pt_chain (rCmp_ok hr o) (rCmp_ok hr o') ha hb hd hm) fun y c σ H Q s h => by
    simp only [evE] at h
    refine goOT s h fun ra c1 y1 v H1 x1 s1 r1 q1 => ?_
    refine goOT s1 (q1.imp (XW.ext x1) fun _ _ z => z) fun rb c2 y2 w H2 x2 s2 r2 q2 => ?_
    split at q2
    · rename_i f x g z h1 h2
      rw [t_bind, Post.bind, Post.ofOpt] at q2
      obtain ⟨k, e1, q2⟩ := q2
      refine cmp_go s2.top ((r1.ext x2 s1 s2).vw s2 h1) (r2.vw s2 h2) e1 ⟨k, rfl, ?_⟩
      cases k with
      | false =>
        rw [if_neg Bool.false_ne_true]
        exact ⟨false, rfl, q2 y2 H2 (x1.trans x2) s2⟩
      | true =>
        rw [if_pos rfl]
        rw [if_pos rfl] at q2
        refine goOT s2 (q2.imp (XW.ext x2) fun _ _ z => z) fun rd c3 y3 u H3 x3 s3 r3 q3 => ?_
        split at q3
        · rename_i f' x' g' z' h3 h4
          rw [t_bl, Post.ofOpt] at q3
          obtain ⟨k, e2, q3⟩ := q3
          exact cmp_go s3.top ((r2.ext x3 s2 s3).vw s3 h3) (r3.vw s3 h4) e2 ⟨k, rfl, q3 y3 H3 ((x1.trans x2).trans x3) s3⟩
        · exact q3.elim
    · exact q2.elim

/-! ### and, or, not, if -/
theorem e_and1 {a : IE} {e : Expr} {op pos} (ha : PE X e (tE ct cl sg W lv a)) : PE X (.BoolOp op [e] pos) (tE ct cl sg W lv a) := pe_one ha
theorem e_and {a b : IE} {e e' : Expr} {es : List Expr} {pos : Pos} (ha : PE X e (tE ct cl sg W lv a)) (hb : PE X (.BoolOp .And (e' :: es) pos) (tE ct cl sg W lv b)) : PE X (.BoolOp .And (e :: e' :: es) pos) (tE ct cl sg W lv (.and a b)) :=
  (pe_and ha hb).conseq fun σ H Q ⟨y, c, s, h⟩ => by
    simp only [evE] at h
    refine goO s h fun ra c1 y1 v H1 x1 s1 r1 q1 => ?_
    split at q1
    · rename_i f h1
      exact ⟨true, blV (r1.vw s1 h1), ⟨y1, c1, s1, (q1.imp (XW.ext x1) fun _ _ z => KE x1 z)⟩⟩
    · rename_i f h1
      exact ⟨false, blV (r1.vw s1 h1), q1 y1 _ H1 x1 s1 (bl_ok s1)⟩
    · exact q1.elim
theorem e_or {a b : IE} {e e' : Expr} {es : List Expr} {pos : Pos} (ha : PE X e (tE ct cl sg W lv a)) (hb : PE X (.BoolOp .Or (e' :: es) pos) (tE ct cl sg W lv b)) : PE X (.BoolOp .Or (e :: e' :: es) pos) (tE ct cl sg W lv (.or a b)) :=
  (pe_or ha hb).conseq fun σ H Q ⟨y, c, s, h⟩ => by
    simp only [evE] at h
    refine goO s h fun ra c1 y1 v H1 x1 s1 r1 q1 => ?_
    split at q1
    · rename_i f h1
      exact ⟨false, blV (r1.vw s1 h1), ⟨y1, c1, s1, (q1.imp (XW.ext x1) fun _ _ z => KE x1 z)⟩⟩
    · rename_i f h1
      exact ⟨true, blV (r1.vw s1 h1), q1 y1 _ H1 x1 s1 (bl_ok s1)⟩
    · exact q1.elim
/-- a test ahead -/
theorem toT {a : IE} {Q : Bool → Hp → Prop} {β : Type} {F : Bool → C → Out β} {K : β → C → Prop} (s : SR y lv c σ H) (h : Post (((evE cl sg lv a c).t lv).bind F) (XW ct lv y σ W) K)
    (k : ∀ b c' y' H', Ext y lv y' → SR y' lv c' σ H' → Post (F b c') (XW ct lv y σ W) K → Q b H') : tT ct cl sg W lv a σ H Q := by
  rw [Post.bind] at h
  exact ⟨y, c, s, h.imp (fun _ _ z => z) fun b c' q y' H' x s' => k b c' y' H' x s' q⟩
theorem e_not {a : IE} {e : Expr} {pos : Pos} (ha : PE X e (tE ct cl sg W lv a)) : PE X (.UnaryOp .Not e pos) (tE ct cl sg W lv (.not a)) :=
  (pe_notT ha).conseq fun σ H Q ⟨y, c, s, h⟩ => by
    simp only [evE, Out.t] at h
    rw [Post.bind] at h
    refine goOB s h fun ra c1 y1 v H1 x1 s1 r1 q1 => ?_
    split at q1
    · rename_i f d h1
      rw [Post.ofOpt] at q1
      obtain ⟨k, e1, q1⟩ := q1
      exact ⟨k, tru_of (r1.vw s1 h1) e1, q1 y1 _ H1 x1 s1 (bl_ok s1)⟩
    · exact q1.elim
theorem t_not {a : IE} {e : Expr} {pos : Pos} (ha : PT X e (tT ct cl sg W lv a)) : PT X (.UnaryOp .Not e pos) (tT ct cl sg W lv (.not a)) :=
  t_of (pt_not ha) fun y c σ H Q s h => by
    simp only [evE] at h
    rw [t_bind, Post.bind] at h
    exact ⟨y, c, s, h.imp (fun _ _ z => z) fun k c1 q1 y1 H1 x1 s1 => q1 y1 H1 x1 s1⟩
end
end Sd

/-! Sd7: and, or, if; sequences of expressions; displays, subscripts, slices. -/
namespace Sd
open PySem PySem.Spec PyProof.Rows L2
section
variable {X : Cx} {ct : Ct} {cl : Caller} {sg : Sig} {W : WX} {lv : Nat} {y : Dy} {c : C} {σ : L2.St} {H : Hp}
theorem t_and {a b : IE} {e e' : Expr} {es : List Expr} {pos : Pos} (ha : PT X e (tT ct cl sg W lv a)) (hb : PW X (.BoolOp .And (e' :: es) pos) (tT ct cl sg W lv b)) : PW X (.BoolOp .And (e :: e' :: es) pos) (tT ct cl sg W lv (.and a b)) :=
  (pw_and ha hb).conseq fun σ H Q ⟨y, c, s, h⟩ => by
    simp only [evE] at h
    rw [t_bind, Post.bind] at h
    refine ⟨y, c, s, ?_⟩
    rw [show (evE cl sg lv a c).t lv = ((evE cl sg lv a c).o lv).bind fun r c => match look c r with
      | some (_, d) => ofOpt (tru d) c
      | none => .stuck from rfl, Post.bind]
    refine h.imp (fun _ _ z => z) fun ra c1 q1 => ?_
    cases e1 : look c1 ra with
    | none => rw [e1] at q1; exact q1.elim
    | some p =>
      obtain ⟨f, d⟩ := p
      rw [e1] at q1
      cases d with
      | bl k =>
        cases k with
        | true => exact fun y1 H1 x1 s1 => ⟨y1, c1, s1, q1.imp (XW.ext x1) fun k c2 z y2 H2 x2 s2 => z y2 H2 (x1.trans x2) s2⟩
        | false => exact fun y1 H1 x1 s1 => q1 y1 H1 x1 s1
      | _ => exact q1.elim
theorem t_or {a b : IE} {e e' : Expr} {es : List Expr} {pos : Pos} (ha : PT X e (tT ct cl sg W lv a)) (hb : PW X (.BoolOp .Or (e' :: es) pos) (tT ct cl sg W lv b)) : PW X (.BoolOp .Or (e :: e' :: es) pos) (tT ct cl sg W lv (.or a b)) :=
  (pw_or ha hb).conseq fun σ H Q ⟨y, c, s, h⟩ => by
    simp only [evE] at h
    rw [t_bind, Post.bind] at h
    refine ⟨y, c, s, ?_⟩
    rw [show (evE cl sg lv a c).t lv = ((evE cl sg lv a c).o lv).bind fun r c => match look c r with
      | some (_, d) => ofOpt (tru d) c
      | none => .stuck from rfl, Post.bind]
    refine h.imp (fun _ _ z => z) fun ra c1 q1 => ?_
    cases e1 : look c1 ra with
    | none => rw [e1] at q1; exact q1.elim
    | some p =>
      obtain ⟨f, d⟩ := p
      rw [e1] at q1
      cases d with
      | bl k =>
        cases k with
        | false => exact fun y1 H1 x1 s1 => ⟨y1, c1, s1, q1.imp (XW.ext x1) fun k c2 z y2 H2 x2 s2 => z y2 H2 (x1.trans x2) s2⟩
        | true => exact fun y1 H1 x1 s1 => q1 y1 H1 x1 s1
      | _ => exact q1.elim
theorem e_ite {t a b : IE} {e1 e2 e3 : Expr} {pos : Pos} (ht : PT X e1 (tT ct cl sg W lv t)) (ha : PE X e2 (tE ct cl sg W lv a)) (hb : PE X e3 (tE ct cl sg W lv b)) : PE X (.IfExp e1 e2 e3 pos) (tE ct cl sg W lv (.ite t a b)) :=
  (pe_ifExp ht ha hb).conseq fun σ H Q ⟨y, c, s, h⟩ => by
    simp only [evE] at h
    refine toT s h fun k c1 y1 H1 x1 s1 q1 => ?_
    cases k with
    | true => rw [if_pos rfl] at q1 ⊢; exact ⟨y1, c1, s1, q1.imp (XW.ext x1) fun _ _ z => KE x1 z⟩
    | false => rw [if_neg Bool.false_ne_true] at q1 ⊢; exact ⟨y1, c1, s1, q1.imp (XW.ext x1) fun _ _ z => KE x1 z⟩
def tIfT (t ta tb : TT) : TT := fun σ H Q => t σ H fun c H1 => if c = true then ta σ H1 Q else tb σ H1 Q
theorem pt_ifExp {c a b : Expr} {pos : Pos} {tc ta tb : TT} (hc : PT X c tc) (ha : PT X a ta) (hb : PT X b tb) : PT X (.IfExp c a b pos) (tIfT tc ta tb) := by
  refine ⟨fun pins s σ H Q I h => ?_⟩
  refine isTrue_IfExp (thn (hc.run pins s σ H _ I h) fun d s1 ⟨H1, I1, q1⟩ => ?_)
  cases d with
  | true => exact ha.run pins s1 σ H1 Q I1 q1
  | false => exact hb.run pins s1 σ H1 Q I1 q1
theorem t_ite {t a b : IE} {e1 e2 e3 : Expr} {pos : Pos} (ht : PT X e1 (tT ct cl sg W lv t)) (ha : PT X e2 (tT ct cl sg W lv a)) (hb : PT X e3 (tT ct cl sg W lv b)) : PT X (.IfExp e1 e2 e3 pos) (tT ct cl sg W lv (.ite t a b)) :=
  t_of (pt_ifExp ht ha hb) fun y c σ H Q s h => by
    simp only [evE] at h
    rw [t_bind] at h
    refine toT s h fun k c1 y1 H1 x1 s1 q1 => ?_
    cases k with
    | true => rw [if_pos rfl] at q1 ⊢; exact ⟨y1, c1, s1, q1.imp (XW.ext x1) fun k c2 z y2 H2 x2 s2 => z y2 H2 (x1.trans x2) s2⟩
    | false => rw [if_neg Bool.false_ne_true] at q1 ⊢; exact ⟨y1, c1, s1, q1.imp (XW.ext x1) fun k c2 z y2 H2 x2 s2 => z y2 H2 (x1.trans x2) s2⟩

/-! ### several expressions -/
theorem notStar {e : Expr} {es : List Expr} {env : Env} (h : isStar e = false) : starEach (e :: es) env = (false, eval e env) :: starEach es env := by
  cases e <;> first | rfl | (simp [isStar] at h)
theorem noStar {es : List Expr} {env : Env} {pos : Pos} (h : es.any isStar = false) : (backTo pos (starEach es env)).any (·.1) = false := by
  induction es with
  | nil => rfl
  | cons e es ih =>
    simp only [List.any_cons, Bool.or_eq_false_iff] at h
    rw [notStar h.1]
    show ((false, _) :: backTo pos (starEach es env)).any (·.1) = false
    rw [List.any_cons, ih h.2]; rfl
theorem a_nilO : PA X [] (tAo ct cl sg W lv []) := pa_nil.conseq fun σ H Q ⟨y, c, s, h⟩ => by
  simp only [evA] at h
  exact h y [] H Ext.refl s .nil
theorem a_consO {a : IE} {as : List IE} {e : Expr} {es : List Expr} (ha : PE X e (tE ct cl sg W lv a)) (hr : PA X es (tAo ct cl sg W lv as)) (hs : isStar e = false) : PA X (e :: es) (tAo ct cl sg W lv (a :: as)) :=
  (pa_cons ha hr (notStar hs)).conseq fun σ H Q ⟨y, c, s, h⟩ => by
    simp only [evA] at h
    refine goOB s h fun ra c1 y1 v H1 x1 s1 r1 q1 => ?_
    rw [Post.bind] at q1
    exact ⟨y1, c1, s1, q1.imp (XW.ext x1) fun rs c2 q2 y2 vs H2 x2 s2 r2 => q2 y2 (v :: vs) H2 (x1.trans x2) s2 (.cons (r1.ext x2 s1 s2) r2)⟩
theorem a_nilF : PA X [] (tAf ct cl sg W lv []) := pa_nil.conseq fun σ H Q ⟨y, c, s, h⟩ => by
  simp only [evF] at h
  exact h y [] H Ext.refl s Rps.nil
theorem a_consF {a : IE} {as : List IE} {e : Expr} {es : List Expr} (ha : PE X e (tE ct cl sg W lv a)) (hr : PA X es (tAf ct cl sg W lv as)) (hs : isStar e = false) : PA X (e :: es) (tAf ct cl sg W lv (a :: as)) :=
  (pa_cons ha hr (notStar hs)).conseq fun σ H Q ⟨y, c, s, h⟩ => by
    simp only [evF] at h
    refine goZ s h fun fd c1 y1 v H1 x1 s1 r1 q1 => ?_
    rw [Post.bind] at q1
    refine ⟨y1, c1, s1, q1.imp (XW.ext x1) fun gs c2 q2 y2 vs H2 x2 s2 r2 => q2 y2 (v :: vs) H2 (x1.trans x2) s2 ?_⟩
    exact .cons (Rp.mono (Pre.refl _) (regm_join_l s2.g) _ _ (Rp.ext x2 s1 s2 r1).nrm) (Rps.mono (Pre.refl _) (regm_join_r s2.g) _ _ r2)
theorem a_nilS : PA X [] (tAs ct cl sg W lv []) := pa_nil.conseq fun σ H Q ⟨y, c, s, h⟩ => by
  simp only [evS] at h
  exact h y [] H Ext.refl s Rps.nil
theorem evS_cons {a : IE} {as : List IE} {c : C} (h : ∀ b, a ≠ .star b) : evS cl sg lv (a :: as) c = ((evE cl sg lv a c).z lv).bind fun (f, d) c => (evS cl sg lv as c).bind fun (g, ds) c => .ok ((nrm d f).join g, d :: ds) c := by
  cases a <;> first | exact absurd rfl (h _) | (simp only [evS])
theorem a_consS {a : IE} {as : List IE} {e : Expr} {es : List Expr} (hn : ∀ b, a ≠ .star b) (ha : PE X e (tE ct cl sg W lv a)) (hr : PA X es (tAs ct cl sg W lv as)) (hs : isStar e = false) : PA X (e :: es) (tAs ct cl sg W lv (a :: as)) :=
  (pa_cons ha hr (notStar hs)).conseq fun σ H Q ⟨y, c, s, h⟩ => by
    rw [evS_cons hn] at h
    refine goZ s h fun fd c1 y1 v H1 x1 s1 r1 q1 => ?_
    rw [Post.bind] at q1
    refine ⟨y1, c1, s1, q1.imp (XW.ext x1) fun gs c2 q2 y2 vs H2 x2 s2 r2 => q2 y2 (v :: vs) H2 (x1.trans x2) s2 ?_⟩
    exact .cons (Rp.mono (Pre.refl _) (regm_join_l s2.g) _ _ (Rp.ext x2 s1 s2 r1).nrm) (Rps.mono (Pre.refl _) (regm_join_r s2.g) _ _ r2)
theorem a_starS {a : IE} {as : List IE} {e : Expr} {es : List Expr} {p : Pos} (ha : PE X e (tE ct cl sg W lv a)) (hr : PA X es (tAs ct cl sg W lv as)) : PA X (.Starred e p :: es) (tAs ct cl sg W lv (.star a :: as)) :=
  (StX.pa_star ha hr rfl).conseq fun σ H Q ⟨y, c, s, h⟩ => by
    simp only [evS] at h
    refine goOB s h fun ra c1 y1 v H1 x1 s1 r1 q1 => ?_
    split at q1
    · rename_i f d h1
      have vw := r1.vw s1 h1
      have fin : ∀ {xs : List D} {vs : List V} {p : Addr}, v = .ref p → (SqT X.K H1 p vs ∨ SqL X.K H1 p vs) → Rps y1.sx (regm y1.G lv f) xs vs →
          Post ((evS cl sg lv as c1).bind fun (g, ds) c => .ok (f.join g, xs ++ ds) c) (XW ct lv y σ W) (fun fd c' => ∀ y' vs H', Ext y lv y' → SR y' lv c' σ H' → Rps y'.sx (regm y'.G lv fd.1) fd.2 vs → Q vs H') →
          ∃ p xs, v = V.ref p ∧ (SqT X.K H1 p xs ∨ SqL X.K H1 p xs) ∧ tAs ct cl sg W lv as σ H1 fun ys H2 => Q (xs ++ ys) H2 := fun {xs vs p} e sq rp q => by
        rw [Post.bind] at q
        refine ⟨p, vs, e, sq, y1, c1, s1, q.imp (XW.ext x1) fun gs c2 q2 y2 ws H2 x2 s2 r2 => q2 y2 (vs ++ ws) H2 (x1.trans x2) s2 ?_⟩
        exact (Rps.mono (Pre.refl _) (regm_join_l s2.g) _ _ (Rps.ext x2 s1 s2 rp)).append (Rps.mono (Pre.refl _) (regm_join_r s2.g) _ _ r2)
      cases d with
      | lst xs =>
        obtain ⟨p, vs, e, hp, rp⟩ := vw
        exact fin e (.inr (.of hp)) rp q1
      | tup xs =>
        obtain ⟨p, vs, e, hp, rp⟩ := vw
        exact fin e (.inl (.of hp.1)) rp q1
      | _ => exact q1.elim
    · exact q1.elim

/-! ### displays, subscripts, slices -/
theorem e_lst {as : List IE} {es : List Expr} {pos : Pos} (ha : PA X es (tAs ct cl sg W lv as)) : PE X (.List es pos) (tE ct cl sg W lv (.lst as)) :=
  (pe_lst ha).conseq fun σ H Q ⟨y, c, s, h⟩ => by
    simp only [evE] at h
    rw [Post.bind] at h
    refine ⟨y, c, s, h.imp (fun _ _ z => z) fun fd c1 q1 y1 vs H1 x1 s1 r1 => ?_⟩
    split at q1
    · rename_i hz
      refine ⟨by rw [r1.length, ← SZ_eq]; exact hz, fun p hp => ?_⟩
      obtain ⟨s', r'⟩ := s1.newList hp r1
      exact q1 y1 _ _ x1 s' r'
    · exact q1.elim
theorem e_tup {as : List IE} {es : List Expr} {k : Nat} {pos : Pos} (ha : PA X es (tAf ct cl sg W lv as)) : PE X (.Tuple es k pos) (tE ct cl sg W lv (.tup as)) :=
  (pe_tup ha).conseq fun σ H Q ⟨y, c, s, h⟩ => by
    simp only [evE] at h
    rw [Post.bind] at h
    refine ⟨y, c, s, h.imp (fun _ _ z => z) fun fd c1 q1 y1 vs H1 x1 s1 r1 => ?_⟩
    split at q1
    · rename_i hz
      refine ⟨by rw [r1.length, ← SZ_eq]; exact hz, fun p hp => ?_⟩
      obtain ⟨y2, x2, s2, r2⟩ := s1.newTup hp r1
      exact q1 y2 _ _ (x1.trans x2) s2 (val_ok s2 r2)
    · exact q1.elim
theorem atD_get {xs : List D} {i : Int} {d : D} {vs : List V} {sx : List (Addr × Addr)} {G : Hp} (h : Rps sx G xs vs) (e : atD xs i = some d) : ∃ v, atI vs i = some v ∧ Rp sx G d v := by
  unfold atD atI at e
  cases hn : ixN xs.length i with
  | none => rw [hn] at e; cases e
  | some j =>
    rw [hn] at e
    obtain ⟨v, h1, h2⟩ := h.get e
    refine ⟨v, ?_, h2⟩
    unfold atI
    rw [h.length, hn]; exact h1
theorem e_ix {a i : IE} {l r : Expr} {pos : Pos} (ha : PE X l (tE ct cl sg W lv a)) (hi : PE X r (tE ct cl sg W lv i)) (hs : PlainIx r) : PE X (.Subscript l r pos) (tE ct cl sg W lv (.ix a i)) :=
  (pe_ix ix_seq ha hi hs).conseq fun σ H Q ⟨y, c, s, h⟩ => by
    simp only [evE] at h
    refine goO s h fun ra c1 y1 v H1 x1 s1 r1 q1 => ?_
    refine goO s1 (q1.imp (XW.ext x1) fun _ _ z => z) fun rb c2 y2 w H2 x2 s2 r2 q2 => ?_
    split at q2
    · rename_i f d g e h1 h2
      rw [Post.bind, Post.ofOpt] at q2
      obtain ⟨z, e1, q2⟩ := q2
      have va := (r1.ext x2 s1 s2).vw s2 h1
      have vb := r2.vw s2 h2
      cases d <;> first | (simp [ixD] at e1; done) | skip
      all_goals (cases e <;> first | (simp [ixD] at e1; done) | skip)
      all_goals
        simp only [ixD] at e1
        obtain ⟨p, vs, rfl, hp, rp⟩ := va
        obtain ⟨u, hu, ru⟩ := atD_get rp e1
        rw [intV vb]
      · exact .inl ⟨p, vs, _, u, rfl, rfl, .of hp, hu, q2 y2 u H2 (x1.trans x2) s2 (val_ok s2 ru)⟩
      · exact .inr (.inl ⟨p, vs, _, u, rfl, rfl, .of hp.1, hu, q2 y2 u H2 (x1.trans x2) s2 (val_ok s2 ru)⟩)
    · exact q2.elim
/-- a slice's parts -/
def tP (ct : Ct) (cl : Caller) (sg : Sig) (W : WX) (lv : Nat) (as : List IE) : TO := fun σ H Q => ∃ y c, SR y lv c σ H ∧ Post (evP cl sg lv as c) (XW ct lv y σ W) fun o c' => ∀ y' H', Ext y lv y' → SR y' lv c' σ H' → Q o H'
theorem p_none : PO X none (tP ct cl sg W lv []) := ⟨fun pins s σ H Q I ⟨y, c, sr, h⟩ => po_none.run pins s σ H Q I (by simp only [evP] at h; exact h y H Ext.refl sr)⟩
theorem p_some {a : IE} {e : Expr} (ha : PE X e (tE ct cl sg W lv a)) : PO X (some e) (tP ct cl sg W lv [a]) := ⟨fun pins s σ H Q I ⟨y, c, sr, h⟩ => (po_some ha).run pins s σ H Q I (by
  simp only [evP] at h
  refine goOB sr h fun ra c1 y1 v H1 x1 s1 r1 q1 => ?_
  split at q1
  · rename_i f i h1
    exact ⟨i, intV (r1.vw s1 h1), q1 y1 H1 x1 s1⟩
  · exact q1.elim)⟩
theorem toP {as : List IE} {Q : Option Int → Hp → Prop} {β : Type} {F : Option Int → C → Out β} {K : β → C → Prop} (s : SR y lv c σ H) (h : Post ((evP cl sg lv as c).bind F) (XW ct lv y σ W) K)
    (k : ∀ o c' y' H', Ext y lv y' → SR y' lv c' σ H' → Post (F o c') (XW ct lv y σ W) K → Q o H') : tP ct cl sg W lv as σ H Q := by
  rw [Post.bind] at h
  exact ⟨y, c, s, h.imp (fun _ _ z => z) fun o c' q y' H' x s' => k o c' y' H' x s' q⟩
theorem e_slc {a : IE} {lo hi : List IE} {l : Expr} {el eh : Option Expr} {p2 pos : Pos} (ha : PE X l (tE ct cl sg W lv a)) (hl : PO X el (tP ct cl sg W lv lo)) (hh : PO X eh (tP ct cl sg W lv hi)) : PE X (.Subscript l (.Slice el eh none p2) pos) (tE ct cl sg W lv (.slc a lo hi)) :=
  (pe_slice (sl_list.or sl_tupA) ha hl hh).conseq fun σ H Q ⟨y, c, s, h⟩ => by
    simp only [evE] at h
    refine goO s h fun ra c1 y1 v H1 x1 s1 r1 q1 => ?_
    refine toP s1 (q1.imp (XW.ext x1) fun _ _ z => z) fun o c2 y2 H2 x2 s2 q2 => ?_
    refine toP s2 (q2.imp (XW.ext x2) fun _ _ z => z) fun o' c3 y3 H3 x3 s3 q3 => ?_
    split at q3
    · rename_i f xs h1
      obtain ⟨p, vs, rfl, hp, rp⟩ := ((r1.ext x2 s1 s2).ext x3 s2 s3).vw s3 h1
      refine .inl ⟨p, vs, rfl, .of hp, fun n hn => ?_⟩
      have hl := rp.length
      have e : cutV vs o o' = (vs.drop (HT.sIx xs.length 0 o)).take (HT.sIx xs.length xs.length o' - HT.sIx xs.length 0 o) := by unfold cutV; rw [hl]
      obtain ⟨s', r'⟩ := s3.newList hn (f := f) (xs := cutD xs o o') (vs := cutV vs o o') (by rw [e]; exact (rp.drop _).take _)
      exact q3 y3 _ _ ((x1.trans x2).trans x3) s' r'
    · rename_i f xs h1
      obtain ⟨p, vs, rfl, hp, rp⟩ := ((r1.ext x2 s1 s2).ext x3 s2 s3).vw s3 h1
      have hl := rp.length
      have e : cutV vs o o' = (vs.drop (HT.sIx xs.length 0 o)).take (HT.sIx xs.length xs.length o' - HT.sIx xs.length 0 o) := by unfold cutV; rw [hl]
      have rc : Rps y3.sx (regm y3.G lv f) (cutD xs o o') (cutV vs o o') := by rw [e]; exact (rp.drop _).take _
      refine .inr ⟨p, vs, rfl, .of hp.1, fun hw => ?_, fun _ n hn => ?_⟩
      · have ew : cutD xs o o' = xs := by
          unfold cutD
          rw [hl] at hw
          rw [hw.1, hw.2, List.drop_zero, Nat.sub_zero, List.take_length]
        rw [ew] at q3
        refine q3 y3 _ _ ((x1.trans x2).trans x3) s3 (val_ok s3 ?_)
        simp only [Rp]
        exact ⟨p, vs, rfl, regm_tup hp.2, Rps.mono (Pre.refl _) (regm_join_l s3.g) _ _ rp⟩
      · obtain ⟨y4, x4, s4, r4⟩ := s3.newTup hn rc
        exact q3 y4 _ _ (((x1.trans x2).trans x3).trans x4) s4 (val_ok s4 r4)
    · exact q3.elim
theorem e_rev {a : IE} {l : Expr} {k : Nat} {p1 p2 p3 pos : Pos} (ha : PE X l (tE ct cl sg W lv a)) : PE X (.Subscript l (.Slice none none (some (.UnaryOp .USub (.Constant (.int 1) k p1) p2)) p3) pos) (tE ct cl sg W lv (.rev a)) :=
  (pe_revL ha).conseq fun σ H Q ⟨y, c, s, h⟩ => by
    simp only [evE] at h
    refine goO s h fun ra c1 y1 v H1 x1 s1 r1 q1 => ?_
    split at q1
    · rename_i f xs h1
      obtain ⟨p, vs, rfl, hp, rp⟩ := r1.vw s1 h1
      refine ⟨p, vs, rfl, .of hp, fun n hn => ?_⟩
      obtain ⟨s', r'⟩ := s1.newList hn rp.reverse
      exact q1 y1 _ _ x1 s' r'
    · exact q1.elim
end
end Sd

/-! Sd7b: the text of a list, of a tuple. -/
namespace Sd
open PySem PySem.Spec PyProof.Rows L2
theorem int_short {i : Int} (h : i.natAbs < 10 ^ 12) : i.natAbs.log2 < 40 := by
  by_cases h0 : i.natAbs = 0
  · rw [h0]; decide
  · exact (Nat.log2_lt h0).mpr (Nat.lt_trans h (by decide))
theorem strOk_lt {x : Str} (h : PyData.strOk x = true) : (x.cps.toList.all fun c => decide (c < 16 ^ 8)) = true := by
  unfold PyData.strOk at h
  rw [Array.all_eq_true'] at h
  rw [List.all_eq_true]
  intro c hc
  have := h c (by simpa using hc)
  simp only [decide_eq_true_eq] at this ⊢
  omega
mutual
theorem rpOk_all : ∀ (d : D) (n : Nat), rpOk n d = true → eqOk n d = true ∧ (toPy d).showable = true ∧ PyData.leavesShort 13 (toPy d) = true ∧ (toPy d).hasDict = false ∧ (toPy d).weight ≤ wgt d
  | .non, n, h => by cases n <;> simp [eqOk, toPy, PyData.showable, PyData.leavesShort, PyData.hasDict, PyData.weight]
  | .bl b, n, h => by cases n <;> simp [eqOk, toPy, PyData.showable, PyData.leavesShort, PyData.hasDict, PyData.weight]
  | .int i, n, h => by
    have h : i.natAbs < 10 ^ 12 := by cases n <;> simpa [rpOk] using h
    have e := int_short h
    refine ⟨by cases n <;> simp [eqOk], ?_, ?_, rfl, ?_⟩
    · simp only [toPy, PyData.showable, decide_eq_true_eq]; omega
    · simp only [toPy, PyData.leavesShort, decide_eq_true_eq]; exact PyData.shown_int_le h
    · simp only [toPy, PyData.weight, wgt]
      split <;> omega
  | .str x, n, h => by
    have h : PyData.strOk x = true := by cases n <;> (unfold rpOk at h; exact h)
    refine ⟨by cases n <;> (unfold eqOk; exact h), rfl, ?_, rfl, ?_⟩
    · simp only [toPy, PyData.leavesShort]; exact strOk_lt h
    · simp only [toPy, PyData.weight, wgt]; exact Nat.le_refl _
  | .lst xs, n, h => by
    cases n with
    | zero => simp [rpOk] at h
    | succ n =>
      obtain ⟨a, b, c, d, e⟩ := rpOks_all xs n (by simpa only [rpOk] using h)
      exact ⟨by simpa only [eqOk] using a, by simpa only [toPy, PyData.showable] using b, by simpa only [toPy, PyData.leavesShort] using c, by simpa only [toPy, PyData.hasDict] using d, by simpa only [toPy, PyData.weight, wgt] using e⟩
  | .tup xs, n, h => by
    cases n with
    | zero => simp [rpOk] at h
    | succ n =>
      obtain ⟨a, b, c, d, e⟩ := rpOks_all xs n (by simpa only [rpOk] using h)
      exact ⟨by simpa only [eqOk] using a, by simpa only [toPy, PyData.showable] using b, by simpa only [toPy, PyData.leavesShort] using c, by simpa only [toPy, PyData.hasDict] using d, by simpa only [toPy, PyData.weight, wgt] using e⟩
  | .dic _ _, n, h => by cases n <;> simp [rpOk] at h
  | .stm _, n, h => by cases n <;> simp [rpOk] at h
  | .obj _, n, h => by cases n <;> simp [rpOk] at h
theorem rpOks_all : ∀ (ds : List D) (n : Nat), rpOks n ds = true → eqOks n ds = true ∧ PyData.showableAll (toPys ds) = true ∧ PyData.leavesShortAll 13 (toPys ds) = true ∧ PyData.hasDictAll (toPys ds) = false ∧ PyData.weightAll (toPys ds) ≤ wgts ds
  | [], n, h => by simp [eqOks, toPys, PyData.showableAll, PyData.leavesShortAll, PyData.hasDictAll, PyData.weightAll, wgts]
  | d :: ds, n, h => by
    simp only [rpOks, Bool.and_eq_true] at h
    obtain ⟨a1, b1, c1, d1, e1⟩ := rpOk_all d n h.1
    obtain ⟨a2, b2, c2, d2, e2⟩ := rpOks_all ds n h.2
    refine ⟨by simp only [eqOks, a1, a2, Bool.and_self], by simp only [toPys, PyData.showableAll, b1, b2, Bool.and_self], by simp only [toPys, PyData.leavesShortAll, c1, c2, Bool.and_self], by simp only [toPys, PyData.hasDictAll, d1, d2, Bool.or_self], ?_⟩
    simp only [toPys, PyData.weightAll, wgts]; omega
end
/-- repr(x) of lists and tuples -/
def rRepr (K : PySem.W.Frag) : List V → Hp → VK → Prop := fun xs H Q => ∃ a d, xs = [.ref a] ∧ Dp K H (.ref a) d ∧ d.showable = true ∧ d.hasDict = false ∧ d.depth ≤ 60 ∧ d.shown.length ≤ sizeLine ∧ Q (.str d.shown) H
theorem cr_repr {X : Cx} {k : Nat} (hr : RoomG k X.A) : CallR X (.builtin "repr") (rRepr X.K) := by
  intro pins s σ H xs us Q I r ⟨a, d, e, hd, h1, h2, h3, h4, q⟩
  subst e
  cases r with
  | cons r0 r1 =>
    cases r1
    obtain ⟨as, rd⟩ := Dp.reads I d _ _ hd r0
    have hu := hr.r.un
    cases r0
    refine repr_of_reads' rd h1 (PyData.noDict_hsm h2) hr.g (by omega) (fun _ _ z => z) (fun h' u tk hk => ?_) h4
    exact ⟨.str d.shown, H, I.kept hk, ⟨u, rfl⟩, q⟩
theorem repr_ok {K : PySem.W.Frag} {sx : List (Addr × Addr)} {H : Hp} {d : D} {a : Addr} {Q : VK} (h : rpFit d = true) (r : Rp sx H d (.ref a)) (q : Q (.str (toPy d).shown) H) : rRepr K [.ref a] H Q := by
  simp only [rpFit, Bool.and_eq_true, decide_eq_true_eq] at h
  obtain ⟨a1, b1, c1, d1, e1⟩ := rpOk_all d 60 h.1
  exact ⟨a, toPy d, rfl, dp_of K d _ 60 a1 r, b1, d1, (lay_of d 60 a1).2, PyData.shown_fits (B := 13) (by decide) (by decide) c1 (by omega), q⟩
end Sd

/-! Sd8: built-ins, isinstance, list(range(..)), methods of lists. -/
namespace Sd
open PySem PySem.Spec PyProof.Rows L2
section
variable {X : Cx} {ct : Ct} {cl : Caller} {sg : Sig} {W : WX} {lv : Nat} {y : Dy} {c : C} {σ : L2.St} {H : Hp}
/-- several operands, seen -/
theorem looks_vw {rs : List R} {vs : List V} {f : Fl} {ds : List D} (s : SR y lv c σ H) (h : Paired (RelO y lv σ) rs vs) (e : looks c rs = some (f, ds)) :
    vs.length = ds.length ∧ ∀ (i : Nat) d v, ds[i]? = some d → vs[i]? = some v → Vw y lv H f d v := by
  induction h generalizing f ds with
  | nil => simp only [looks, Option.some.injEq, Prod.mk.injEq] at e; obtain ⟨_, rfl⟩ := e; exact ⟨rfl, fun i d v h => by simp at h⟩
  | @cons r v rs vs h hs ih =>
    simp only [looks] at e
    split at e
    · rename_i f1 d1 g1 ds1 e1 e2
      cases e
      obtain ⟨l, q⟩ := ih e2
      have up : ∀ {f g : Fl} {d : D} {v : V}, Sub (regm y.G lv f) (regm y.G lv g) → Vw y lv H f d v → Vw y lv H g d v := fun {f g d v} u k => by
        cases d with
        | lst xs => obtain ⟨a, ws, e, h1, h2⟩ := k; exact ⟨a, ws, e, h1, Rps.mono (Pre.refl _) u _ _ h2⟩
        | tup xs => obtain ⟨a, ws, e, h1, h2⟩ := k; exact ⟨a, ws, e, h1, Rps.mono (Pre.refl _) u _ _ h2⟩
        | _ => exact k
      refine ⟨by simp [l], fun i d w hd hw => ?_⟩
      cases i with
      | zero => simp at hd hw; subst hd; subst hw; exact up (regm_join_l s.g) (h.vw s e1)
      | succ i => exact up (regm_join_r s.g) (q i d w (by simpa using hd) (by simpa using hw))
    · cases e
def btN : Bt → Str
  | .abs => "abs" | .len => "len" | .list => "list" | .tuple => "tuple" | .sum => "sum" | .max => "max" | .min => "min" | .all => "all" | .any => "any" | .sorted => "sorted" | .int => "int" | .repr => "repr" | .dict => "dict"
def btV : Bt → Value
  | .abs => .builtin "abs" | .len => .builtin "len" | .list => .type "list" | .tuple => .type "tuple" | .sum => .builtin "sum" | .max => .builtin "max" | .min => .builtin "min" | .all => .builtin "all" | .any => .builtin "any"
  | .sorted => .builtin "sorted" | .int => .type "int" | .repr => .builtin "repr" | .dict => .type "dict"
def rBlt (K : PySem.W.Frag) : Bt → List V → Hp → VK → Prop
  | .abs => fun xs H Q => ∃ i, xs = [.int i] ∧ Q (.int (if i < 0 then -i else i)) H
  | .len => fun xs H Q => ∃ p ys, xs = [.ref p] ∧ (SqL K H p ys ∨ SqT K H p ys) ∧ Q (.int ys.length) H
  | .list => fun xs H Q => ∃ p ys, xs = [.ref p] ∧ (SqL K H p ys ∨ SqT K H p ys) ∧ ∀ l, H l = none → Q (.ref l) (upd H l (.lst ys))
  | .tuple => fun xs H Q => ∃ p ys, xs = [.ref p] ∧ ((SqL K H p ys ∧ ∀ l, H l = none → Q (.ref l) (upd H l (.tup ys))) ∨ (SqT K H p ys ∧ Q (.ref p) H))
  | .sum => rSum K
  | .max => fun xs H Q => rMax K xs H Q ∨ ∃ i j, xs = [.int i, .int j] ∧ Q (.int (if j > i then j else i)) H
  | .min => fun xs H Q => rMin K xs H Q ∨ ∃ i j, xs = [.int i, .int j] ∧ Q (.int (if j < i then j else i)) H
  | .all => rAll K
  | .any => rAny K
  | .sorted => fun xs H Q => rSortedI K xs H Q ∨ rSortedT K xs H Q
  | .int => fun xs H Q => (∃ i, xs = [.int i] ∧ Q (.int i) H) ∨ ∃ k, xs = [.bl k] ∧ Q (.int (if k then 1 else 0)) H
  | .repr => rRepr K
  | .dict => fun _ _ _ => False
theorem rBlt_ok {k : Nat} (hc : X.calm = true) (hr : RoomG k X.A) : ∀ b, CallR X (btV b) (rBlt X.K b)
  | .abs => call_abs
  | .len => call_len_seq
  | .list => call_list_of
  | .tuple => call_tuple_of
  | .sum => cr_sum hc
  | .max => (cr_max hc).or (call_max2 hc)
  | .min => (cr_min hc).or (call_min2 hc)
  | .all => cr_all hc
  | .any => cr_any hc
  | .sorted => cr_sortedI.or cr_sortedT
  | .int => call_int1
  | .repr => cr_repr hr
  | .dict => fun _ _ _ _ _ _ _ _ _ h => h.elim
theorem boot_btV : ∀ b, bootBuiltins (btN b) = some (btV b) := by
  intro b; cases b <;> (with_unfolding_all decide +kernel)
theorem maxI_ge (xs : List Int) : ∀ m : Int, m ≤ xs.foldl (fun m y => if y > m then y else m) m ∧ (∀ y ∈ xs, y ≤ xs.foldl (fun m y => if y > m then y else m) m) ∧ (xs.foldl (fun m y => if y > m then y else m) m = m ∨ xs.foldl (fun m y => if y > m then y else m) m ∈ xs) := by
  induction xs with
  | nil => intro m; simp
  | cons x xs ih =>
    intro m
    simp only [List.foldl_cons]
    obtain ⟨h1, h2, h3⟩ := ih (if x > m then x else m)
    have g1 : m ≤ (if x > m then x else m) ∧ x ≤ (if x > m then x else m) := by split <;> omega
    refine ⟨Int.le_trans g1.1 h1, fun y hy => ?_, ?_⟩
    · rcases List.mem_cons.mp hy with rfl | hy
      · exact Int.le_trans g1.2 h1
      · exact h2 y hy
    · rcases h3 with h3 | h3
      · rw [h3]; split
        · exact .inr List.mem_cons_self
        · exact .inl rfl
      · exact .inr (List.mem_cons_of_mem _ h3)
theorem minI_le (xs : List Int) : ∀ m : Int, xs.foldl (fun m y => if y < m then y else m) m ≤ m ∧ (∀ y ∈ xs, xs.foldl (fun m y => if y < m then y else m) m ≤ y) ∧ (xs.foldl (fun m y => if y < m then y else m) m = m ∨ xs.foldl (fun m y => if y < m then y else m) m ∈ xs) := by
  induction xs with
  | nil => intro m; simp
  | cons x xs ih =>
    intro m
    simp only [List.foldl_cons]
    obtain ⟨h1, h2, h3⟩ := ih (if x < m then x else m)
    have g1 : (if x < m then x else m) ≤ m ∧ (if x < m then x else m) ≤ x := by split <;> omega
    refine ⟨Int.le_trans h1 g1.1, fun y hy => ?_, ?_⟩
    · rcases List.mem_cons.mp hy with rfl | hy
      · exact Int.le_trans h1 g1.2
      · exact h2 y hy
    · rcases h3 with h3 | h3
      · rw [h3]; split
        · exact .inr List.mem_cons_self
        · exact .inl rfl
      · exact .inr (List.mem_cons_of_mem _ h3)
theorem maxI_is {n m : Int} {ns : List Int} (h1 : m ∈ n :: ns) (h2 : ∀ y ∈ n :: ns, y ≤ m) : m = maxI (n :: ns) := by
  obtain ⟨a, b, e⟩ := maxI_ge ns n
  have h3 := h2 (maxI (n :: ns)) (by
    rcases e with e | e
    · exact List.mem_cons.mpr (.inl e)
    · exact List.mem_cons_of_mem _ e)
  have h4 : m ≤ maxI (n :: ns) := by
    rcases List.mem_cons.mp h1 with rfl | h1
    · exact a
    · exact b m h1
  omega
theorem minI_is {n m : Int} {ns : List Int} (h1 : m ∈ n :: ns) (h2 : ∀ y ∈ n :: ns, m ≤ y) : m = minI (n :: ns) := by
  obtain ⟨a, b, e⟩ := minI_le ns n
  have h3 := h2 (minI (n :: ns)) (by
    rcases e with e | e
    · exact List.mem_cons.mpr (.inl e)
    · exact List.mem_cons_of_mem _ e)
  have h4 : minI (n :: ns) ≤ m := by
    rcases List.mem_cons.mp h1 with rfl | h1
    · exact a
    · exact b m h1
  omega
theorem insI_perm (x : Int) : ∀ l : List Int, (insI x l).Perm (x :: l)
  | [] => .refl _
  | y :: r => by
    simp only [insI]
    split
    · exact .refl _
    · exact ((insI_perm x r).cons y).trans (.swap x y r)
theorem sortI_perm : ∀ l : List Int, (sortI l).Perm l
  | [] => .refl _
  | x :: r => (insI_perm x _).trans ((sortI_perm r).cons x)
theorem insI_sorted (x : Int) : ∀ l : List Int, l.Pairwise (· ≤ ·) → (insI x l).Pairwise (· ≤ ·)
  | [], _ => by simp [insI]
  | y :: r, h => by
    obtain ⟨h1, h2⟩ := List.pairwise_cons.mp h
    simp only [insI]
    split
    · rename_i hx
      refine List.pairwise_cons.mpr ⟨fun z hz => ?_, h⟩
      rcases List.mem_cons.mp hz with rfl | hz
      · exact hx
      · exact Int.le_trans hx (h1 z hz)
    · rename_i hx
      refine List.pairwise_cons.mpr ⟨fun z hz => ?_, insI_sorted x r h2⟩
      rcases List.mem_cons.mp ((insI_perm x r).mem_iff.mp hz) with rfl | hz
      · omega
      · exact h1 z hz
theorem sortI_sorted : ∀ l : List Int, (sortI l).Pairwise (· ≤ ·)
  | [] => .nil
  | x :: r => insI_sorted x _ (sortI_sorted r)
theorem sorted_eq {a b : List Int} (p : a.Perm b) (ha : a.Pairwise (· ≤ ·)) (hb : b.Pairwise (· ≤ ·)) : a = b := p.eq_of_pairwise (le := (· ≤ ·)) (fun _ _ _ _ h1 h2 => Int.le_antisymm h1 h2) ha hb
theorem Vw.ints {f : Fl} {xs : List D} {ns : List Int} {v : V} (h : Vw y lv H f (.lst xs) v) (e : intsOf xs = some ns) : ∃ a, v = .ref a ∧ H a = some (.lst (ns.map V.int)) := by
  obtain ⟨a, vs, rfl, h1, h2⟩ := h
  have := intsOf_inv e
  subst this
  rw [h2.ints_inv] at h1
  exact ⟨a, rfl, h1⟩
theorem Vw.bls {f : Fl} {xs : List D} {ns : List Bool} {v : V} (h : Vw y lv H f (.lst xs) v) (e : blsOf xs = some ns) : ∃ a, v = .ref a ∧ H a = some (.lst (ns.map V.bl)) := by
  obtain ⟨a, vs, rfl, h1, h2⟩ := h
  have := blsOf_inv e
  subst this
  rw [h2.bls_inv] at h1
  exact ⟨a, rfl, h1⟩
/-- what a built-in makes of the data -/
theorem blt_go {K' : PySem.W.Frag} {b : Bt} {f : Fl} {ds : List D} {vs : List V} {Q : VK} {K : R → C → Prop} {W' : Exn → C → Prop} (s : SR y lv c σ H) (hl : vs.length = ds.length) (hv : ∀ (i : Nat) d v, ds[i]? = some d → vs[i]? = some v → Vw y lv H f d v)
    (h : Post (res lv f (bltD b ds) c) W' K) (k : ∀ r y' u H', K r c → Ext y lv y' → SR y' lv c σ H' → RelR y' lv c σ H' r u → Q u H') : rBlt K' b vs H Q := by
  have val1 : ∀ {d : D} {v : V} {g : Fl}, K (rv g d) c → imm d = true → Rp y.sx (regm y.G lv Fl.top) d v → Q v H := fun {d v g} q i r => k _ y v H q Ext.refl s (by
    unfold rv nrm; rw [if_pos i]; exact r)
  have lst1 : ∀ {xs : List D} {vs : List V} {p : Addr}, K (.new f (.lst xs)) c → Rps y.sx (regm y.G lv f) xs vs → H p = none → Q (.ref p) (upd H p (.lst vs)) := fun {xs vs p} q r hp => by
    obtain ⟨s', r'⟩ := s.newList hp r
    exact k _ y _ _ q Ext.refl s' r'
  have one : ∀ {d : D}, ds = [d] → ∃ v, vs = [v] ∧ Vw y lv H f d v := fun {d} e => by
    subst e
    match vs, hl with
    | [v], _ => exact ⟨v, rfl, hv 0 d v rfl rfl⟩
  have two : ∀ {d e : D}, ds = [d, e] → ∃ v w, vs = [v, w] ∧ Vw y lv H f d v ∧ Vw y lv H f e w := fun {d e} z => by
    subst z
    match vs, hl with
    | [v, w], _ => exact ⟨v, w, rfl, hv 0 d v rfl rfl, hv 1 e w rfl rfl⟩
  have int0 : ∀ {i : Int}, Rp y.sx (regm y.G lv Fl.top) (.int i) (.int i) := by simp [Rp]
  have bl0 : ∀ {i : Bool}, Rp y.sx (regm y.G lv Fl.top) (.bl i) (.bl i) := by simp [Rp]
  unfold bltD at h
  split at h <;> first | exact h.elim | skip
  · obtain ⟨v, rfl, q⟩ := one rfl
    exact ⟨_, by rw [intV q], val1 h rfl int0⟩
  · obtain ⟨v, rfl, a, ws, rfl, h1, h2⟩ := one rfl
    exact ⟨a, ws, rfl, .inl (.of h1), by rw [h2.length]; exact val1 h rfl int0⟩
  · obtain ⟨v, rfl, a, ws, rfl, h1, h2⟩ := one rfl
    exact ⟨a, ws, rfl, .inr (.of h1.1), by rw [h2.length]; exact val1 h rfl int0⟩
  · obtain ⟨v, rfl, a, ws, rfl, h1, h2⟩ := one rfl
    exact ⟨a, ws, rfl, .inl (.of h1), fun l hl => lst1 h h2 hl⟩
  · obtain ⟨v, rfl, a, ws, rfl, h1, h2⟩ := one rfl
    exact ⟨a, ws, rfl, .inr (.of h1.1), fun l hl => lst1 h h2 hl⟩
  · obtain ⟨v, rfl, a, ws, rfl, h1, h2⟩ := one rfl
    refine ⟨a, ws, rfl, .inl ⟨.of h1, fun l hl => ?_⟩⟩
    obtain ⟨y2, x2, s2, r2⟩ := s.newTup hl h2
    exact k _ y2 _ _ h x2 s2 (val_ok s2 r2)
  · rename_i xs
    obtain ⟨v, rfl, a, ws, rfl, h1, h2⟩ := one rfl
    refine ⟨a, ws, rfl, .inr ⟨.of h1.1, k _ y _ _ h Ext.refl s (val_ok s ?_)⟩⟩
    simp only [Rp]
    exact ⟨a, ws, rfl, regm_tup h1.2, Rps.mono (Pre.refl _) (regm_join_l s.g) _ _ h2⟩
  · obtain ⟨v, rfl, q⟩ := one rfl
    rename_i xs
    cases e : intsOf xs with
    | none => rw [e] at h; exact h.elim
    | some ns =>
      rw [e] at h
      obtain ⟨a, rfl, h1⟩ := q.ints e
      exact ⟨a, ns, rfl, .of h1, val1 h rfl int0⟩
  · obtain ⟨v, rfl, q⟩ := one rfl
    rename_i xs
    split at h
    · rename_i n ns e
      obtain ⟨a, rfl, h1⟩ := q.ints e
      exact .inl ⟨a, n :: ns, rfl, .of h1, by simp, fun m h3 h4 => by rw [maxI_is h3 h4]; exact val1 h rfl int0⟩
    · exact h.elim
  · obtain ⟨v, rfl, q⟩ := one rfl
    rename_i xs
    split at h
    · rename_i n ns e
      obtain ⟨a, rfl, h1⟩ := q.ints e
      exact .inl ⟨a, n :: ns, rfl, .of h1, by simp, fun m h3 h4 => by rw [minI_is h3 h4]; exact val1 h rfl int0⟩
    · exact h.elim
  · obtain ⟨v, w, rfl, q1, q2⟩ := two rfl
    exact .inr ⟨_, _, by rw [intV q1, intV q2], val1 h rfl int0⟩
  · obtain ⟨v, w, rfl, q1, q2⟩ := two rfl
    exact .inr ⟨_, _, by rw [intV q1, intV q2], val1 h rfl int0⟩
  · obtain ⟨v, rfl, q⟩ := one rfl
    rename_i xs
    cases e : blsOf xs with
    | none => rw [e] at h; exact h.elim
    | some ns =>
      rw [e] at h
      obtain ⟨a, rfl, h1⟩ := q.bls e
      exact ⟨a, ns, rfl, .of h1, val1 h rfl bl0⟩
  · obtain ⟨v, rfl, q⟩ := one rfl
    rename_i xs
    cases e : blsOf xs with
    | none => rw [e] at h; exact h.elim
    | some ns =>
      rw [e] at h
      obtain ⟨a, rfl, h1⟩ := q.bls e
      exact ⟨a, ns, rfl, .of h1, val1 h rfl bl0⟩
  · obtain ⟨v, rfl, q⟩ := one rfl
    rename_i xs
    cases e : intsOf xs with
    | none => rw [e] at h; exact h.elim
    | some ns =>
      rw [e] at h
      obtain ⟨a, rfl, h1⟩ := q.ints e
      refine .inl ⟨a, ns, rfl, .of h1, fun ns' p pm srt hp => ?_⟩
      rw [sorted_eq (pm.trans (sortI_perm ns).symm) srt (sortI_sorted ns)]
      exact lst1 h (Rps.ints _) hp
  · obtain ⟨v, rfl, a, ws, rfl, h1, h2⟩ := one rfl
    rename_i xs
    cases e : intsOf xs with
    | none => rw [e] at h; exact h.elim
    | some ns =>
      rw [e] at h
      rw [intsOf_inv e] at h2
      rw [Rps.ints_inv h2] at h1
      refine .inr ⟨a, ns, rfl, .of h1.1, fun ns' p pm srt hp => ?_⟩
      rw [sorted_eq (pm.trans (sortI_perm ns).symm) srt (sortI_sorted ns)]
      exact lst1 h (Rps.ints _) hp
  · obtain ⟨v, rfl, q⟩ := one rfl
    split at h
    · rename_i hf
      have q' := q.rp s.top
      obtain ⟨a, ws, rfl, h1, h2⟩ := q
      exact repr_ok hf q' (val1 h rfl (by simp [Rp]))
    · exact h.elim
  · obtain ⟨v, rfl, q⟩ := one rfl
    split at h
    · rename_i hf
      have q' := q.rp s.top
      obtain ⟨a, ws, rfl, h1, h2⟩ := q
      exact repr_ok hf q' (val1 h rfl (by simp [Rp]))
    · exact h.elim
  · obtain ⟨v, rfl, q⟩ := one rfl
    exact .inl ⟨_, by rw [intV q], val1 h rfl int0⟩
  · obtain ⟨v, rfl, q⟩ := one rfl
    exact .inr ⟨_, by rw [blV q], val1 h rfl int0⟩
end
end Sd

/-! Sd9: built-ins, isinstance, list(range(..)), methods of lists: the expressions. -/
namespace Sd
open PySem PySem.Spec PyProof.Rows L2
section
variable {X : Cx} {ct : Ct} {cl : Caller} {sg : Sig} {W : WX} {lv : Nat} {y : Dy} {c : C} {σ : L2.St} {H : Hp}
theorem e_blt {k : Nat} {b : Bt} {as : List IE} {e : Expr} {es : List Expr} {p pos : Pos} (hc : X.calm = true) (hr : RoomG k X.A) (hg : Gl X (btN b)) (hm : X.mg (btN b) = none) (ha : PA X (e :: es) (tAo ct cl sg W lv as)) (hs : (e :: es).any isStar = false) :
    PE X (.Call (.Name (btN b) p) (e :: es) [] pos) (tE ct cl sg W lv (.blt b as)) := by
  have h1 : isStar e = false ∧ es.any isStar = false := by simpa using hs
  have base : PE X (.Call (.Name (btN b) p) (e :: es) [] pos) (tCB (rBlt X.K b) (tAo ct cl sg W lv as)) := by
    have r := rBlt_ok (X := X) hc hr b
    have bt := boot_btV b
    cases b <;> first
      | exact pe_callB r hg hm bt ha (by decide) (by decide) (notStar h1.1) (noStar h1.2)
      | exact pe_callTy r hg hm bt ha (by decide) (by decide) (notStar h1.1) (noStar h1.2)
  refine base.conseq fun σ H Q ⟨y, c, s, h⟩ => ?_
  simp only [evE] at h
  rw [Post.bind] at h
  refine ⟨y, c, s, h.imp (fun _ _ z => z) fun rs c1 q1 y1 vs H1 x1 s1 r1 => ?_⟩
  split at q1
  · rename_i f ds e1
    obtain ⟨l, hv⟩ := looks_vw s1 r1 e1
    exact blt_go (K := fun r c' => ∀ y' v H', Ext y lv y' → SR y' lv c' σ H' → RelR y' lv c' σ H' r v → Q v H') s1 l hv q1 fun r y2 u H2 k x2 s2 r2 => k y2 u H2 (x1.trans x2) s2 r2
  · exact q1.elim

/-! ### isinstance -/
def tyS : Ty → String
  | .int => "int" | .bool => "bool" | .list => "list" | .tuple => "tuple" | .dict => "dict" | .str => "str"
def dS : D → String
  | .non => "NoneType" | .bl _ => "bool" | .int _ => "int" | .str _ => "str" | .lst _ => "list" | .tup _ => "tuple" | .dic _ _ => "dict" | .stm _ => "list" | .obj _ => "list"
theorem boot_ty : ∀ t, bootBuiltins (PySem.Str.ofString (tyS t)) = some (.type (tyS t)) := by
  intro t; cases t <;> (with_unfolding_all decide +kernel)
theorem kit_tab (K : PySem.W.Frag) (t : Ty) (d : D) (hn : opq d = false) : PySem.W.kitOne K (.type (dS d)) (.type (tyS t)) = some (isTy t d) := by
  cases d with
  | stm g => simp [opq] at hn
  | obj g => simp [opq] at hn
  | _ => cases t <;> exact kit_ty (by dsimp only [dS, tyS, isTy]; with_unfolding_all decide +kernel)
theorem tyx_of {K : PySem.W.Frag} {f : Fl} {d : D} {v : V} (h : Vw y lv H f d v) (hn : opq d = false) : TyX K H v (.type (dS d)) := by
  cases d with
  | non => rw [nonV h]; exact .base .non
  | bl b => rw [blV h]; exact .base (.bl b)
  | int b => rw [intV h]; exact .base (.int b)
  | str b => rw [strV h]; exact .base (.str b)
  | lst xs => obtain ⟨a, vs, rfl, h1, _⟩ := h; exact .base (.lst h1)
  | tup xs => obtain ⟨a, vs, rfl, h1, _⟩ := h; exact .base (.tup h1.1)
  | dic a b => simp only [Vw, Rp] at h
  | stm g => simp [opq] at hn
  | obj g => simp [opq] at hn
theorem kitAny_tab (K : PySem.W.Frag) {d : D} (hn : opq d = false) : ∀ ts : List Ty, PySem.W.kitAny K (.type (dS d)) (ts.map fun t => Value.type (tyS t)) = some (ts.any fun t => isTy t d)
  | [] => kitAny_nil
  | t :: ts => by
    have ht := kit_tab K t d hn
    exact kitAny_cons ht (fun hb => by rw [kitAny_tab K hn ts, List.any_cons, hb]; rfl) (fun hb => by rw [List.any_cons, hb]; rfl)
/-- the written types of a tuple -/
theorem a_tys {sc : Scope} : ∀ {es : List Expr} {ts : List Ty}, es.mapM (tyN sc) = some ts → (∀ x, isGlb sc x = true → Gl X x) → (∀ t, X.mg (PySem.Str.ofString (tyS t)) = none) → PA X es (fun _ H Q => Q (ts.map fun t => V.ty (tyS t)) H)
  | [], ts, h, _, _ => by
    simp only [List.mapM_nil, Option.pure_def, Option.some.injEq] at h
    subst h
    exact pa_nil
  | e :: es, ts, h, hg, hm => by
    rw [List.mapM_cons] at h
    cases e1 : tyN sc e with
    | none => rw [e1] at h; simp at h
    | some t =>
      cases e2 : es.mapM (tyN sc) with
      | none => rw [e1, e2] at h; simp at h
      | some r =>
        rw [e1, e2] at h
        simp at h
        subst h
        cases e <;> first | (simp [tyN] at e1; done) | skip
        rename_i x p
        simp only [tyN] at e1
        split at e1
        · rename_i hx
          have ex : x = PySem.Str.ofString (tyS t) := by
            unfold tyOf at e1
            repeat' split at e1
            all_goals first | (cases e1; assumption) | cases e1
          subst ex
          have hb := boot_ty t
          have nn : PySem.Str.ofString (tyS t) ≠ "__name__" := by cases t <;> decide
          have nd : (PySem.Str.ofString (tyS t) == ("__debug__" : Str)) = false := by cases t <;> decide
          exact (pa_cons (pe_bltn (v := V.ty (tyS t)) (hg _ hx) (hm t) hb rfl nn nd) (a_tys e2 hg hm) rfl).conseq fun σ H Q q => q
        · cases e1
theorem Vw.sub {H' : Hp} {f : Fl} {d : D} {v : V} (s : Sub H H') (h : Vw y lv H f d v) : Vw y lv H' f d v := by
  cases d with
  | lst xs => obtain ⟨a, vs, e, h1, h2⟩ := h; exact ⟨a, vs, e, s _ _ h1, h2⟩
  | tup xs => obtain ⟨a, vs, e, h1, h2⟩ := h; exact ⟨a, vs, e, ⟨s _ _ h1.1, h1.2⟩, h2⟩
  | _ => exact Rp.mono (Pre.refl _) s _ _ h
theorem clsv_tys : ∀ ts : List Ty, Paired ClsV (ts.map fun t => V.ty (tyS t)) (ts.map fun t => Value.type (tyS t))
  | [] => .nil
  | t :: ts => .cons (.ty _) (clsv_tys ts)
theorem e_isaT {a : IE} {ts : List Ty} {sc : Scope} {e : Expr} {es : List Expr} {k : Nat} {p pos tp : Pos} (hg : Gl X "isinstance") (hm : X.mg "isinstance" = none) (hgl : ∀ x, isGlb sc x = true → Gl X x) (hmt : ∀ t, X.mg (PySem.Str.ofString (tyS t)) = none)
    (ha : PE X e (tE ct cl sg W lv a)) (hs : isStar e = false) (ht : es.mapM (tyN sc) = some ts) (hl : ts.length ≤ 9) : PE X (.Call (.Name "isinstance" p) [e, .Tuple es k tp] [] pos) (tE ct cl sg W lv (.isa a ts)) := by
  have bi : bootBuiltins "isinstance" = some (.builtin "isinstance") := by with_unfolding_all decide +kernel
  refine (pe_callB call_isiT hg hm bi (pa_cons ha (pa_cons (pe_tup (a_tys ht hgl hmt)) pa_nil rfl) (notStar hs)) (by decide) (by decide) (notStar hs) rfl).conseq fun σ H Q ⟨y, c, s, h⟩ => ?_
  simp only [evE] at h
  refine goO s h fun ra c1 y1 v H1 x1 s1 r1 q1 => ?_
  have z : (ts.map fun t => V.ty (tyS t)).length ≤ sizeLine := by
    rw [List.length_map]
    exact Nat.le_trans hl (by rw [sizeLine_eq]; decide)
  refine ⟨z, fun n hn => ?_⟩
  split at q1
  · exact q1.elim
  · exact q1.elim
  · rename_i f d hd hd2 h1
    have nd : opq d = false := by
      cases d <;> first | rfl | exact absurd rfl (hd _) | exact absurd rfl (hd2 _)
    exact ⟨v, n, _, _, _, _, rfl, upd_same, clsv_tys ts, tyx_of ((r1.vw s1 h1).sub (Sub.to_upd hn)) nd, kitAny_tab X.K nd ts, q1 y1 _ _ x1 (s1.alloc _ hn) (bl_ok (s1.alloc _ hn))⟩
  · exact q1.elim
theorem e_isa1 {a : IE} {t : Ty} {sc : Scope} {e : Expr} {x : Str} {p pos tp : Pos} (hg : Gl X "isinstance") (hm : X.mg "isinstance" = none) (hgl : ∀ x, isGlb sc x = true → Gl X x) (hmt : ∀ t, X.mg (PySem.Str.ofString (tyS t)) = none)
    (ha : PE X e (tE ct cl sg W lv a)) (hs : isStar e = false) (ht : tyN sc (.Name x tp) = some t) : PE X (.Call (.Name "isinstance" p) [e, .Name x tp] [] pos) (tE ct cl sg W lv (.isa a [t])) := by
  have bi : bootBuiltins "isinstance" = some (.builtin "isinstance") := by with_unfolding_all decide +kernel
  have tt : PA X [.Name x tp] (fun _ H Q => Q ([t].map fun t => V.ty (tyS t)) H) := a_tys (sc := sc) (by rw [List.mapM_cons, ht]; rfl) hgl hmt
  have pa : PA X [e, .Name x tp] (tCons (tE ct cl sg W lv a) fun _ H Q => Q ([t].map fun t => V.ty (tyS t)) H) := pa_cons ha tt (notStar hs)
  refine (pe_callB call_isi hg hm bi pa (by decide) (by decide) (notStar hs) rfl).conseq fun σ H Q ⟨y, c, s, h⟩ => ?_
  simp only [evE] at h
  refine goO s h fun ra c1 y1 v H1 x1 s1 r1 q1 => ?_
  split at q1
  · exact q1.elim
  · exact q1.elim
  · rename_i f d hd hd2 h1
    have nd : opq d = false := by
      cases d <;> first | rfl | exact absurd rfl (hd _) | exact absurd rfl (hd2 _)
    have e1 : ([t].any fun t => isTy t d) = isTy t d := by simp
    rw [e1] at q1
    exact ⟨v, V.ty (tyS t), _, _, _, rfl, .ty _, tyx_of (r1.vw s1 h1) nd, kit_tab X.K t d nd, q1 y1 _ _ x1 s1 (bl_ok s1)⟩
  · exact q1.elim

/-! ### list(range(..)) -/
theorem rgV_eq (a b : Int) : rgV a b = ((List.range (b - a).toNat).map fun (k : Nat) => a + (k : Int)).map V.int := by
  unfold rgV; rw [List.map_map]; rfl
theorem e_lrng1 {a : IE} {e : Expr} {p p2 pos pos2 : Pos} (hc : X.calm = true) (hg : Gl X "list") (hm : X.mg "list" = none) (hg2 : Gl X "range") (hm2 : X.mg "range" = none) (ha : PE X e (tE ct cl sg W lv a)) (hs : isStar e = false) :
    PE X (.Call (.Name "list" p) [.Call (.Name "range" p2) [e] [] pos2] [] pos) (tE ct cl sg W lv (.lrng [a])) :=
  (pe_listRg hc hg hm (prg_1 hg2 hm2 ha (notStar hs)) rfl).conseq fun σ H Q ⟨y, c, s, h⟩ => by
    simp only [evE, evF] at h
    rw [Post.bind] at h
    refine goZ s h fun fd c1 y1 v H1 x1 s1 r1 q1 => ?_
    obtain ⟨f, d⟩ := fd
    cases d <;> first | exact q1.elim | skip
    rename_i n
    have hv : v = .int n := by simpa only [Rp] using r1
    subst hv
    have q1 : Post ((ofOpt (rngD [.int n]) c1).bind fun xs c => .ok (.new Fl.top (.lst xs)) c) (XW ct lv y σ W) fun r c' => ∀ y' v H', Ext y lv y' → SR y' lv c' σ H' → RelR y' lv c' σ H' r v → Q v H' := q1
    rw [Post.bind, Post.ofOpt] at q1
    obtain ⟨xs, e0, q1⟩ := q1
    simp only [rngD] at e0
    split at e0
    · rename_i hz
      rw [rOk_iff] at hz
      cases e0
      have hSZ : (SZ : Int) = 16777216 := rfl
      refine ⟨n, rfl, ⟨by omega, by omega, by omega, by omega, by omega⟩, fun q hq => ?_⟩
      have e1 : rgV 0 n = ((List.range n.toNat).map fun (k : Nat) => (k : Int)).map V.int := by
        rw [rgV_eq]; simp
      have e2 : ((List.range n.toNat).map fun (k : Nat) => D.int (k : Int)) = ((List.range n.toNat).map fun (k : Nat) => (k : Int)).map D.int := by rw [List.map_map]; rfl
      obtain ⟨s2, r2⟩ := s1.newList (f := Fl.top) hq (Rps.ints (sx := y1.sx) (G := regm y1.G lv Fl.top) ((List.range n.toNat).map fun (k : Nat) => (k : Int)))
      rw [e1]
      rw [e2] at q1
      exact q1 y1 _ _ x1 s2 r2
    · cases e0
theorem e_lrng2 {a b : IE} {e e' : Expr} {p p2 pos pos2 : Pos} (hc : X.calm = true) (hg : Gl X "list") (hm : X.mg "list" = none) (hg2 : Gl X "range") (hm2 : X.mg "range" = none) (ha : PE X e (tE ct cl sg W lv a)) (hb : PE X e' (tE ct cl sg W lv b)) (hs : isStar e = false) (hs' : isStar e' = false) :
    PE X (.Call (.Name "list" p) [.Call (.Name "range" p2) [e, e'] [] pos2] [] pos) (tE ct cl sg W lv (.lrng [a, b])) := by
  have na : starEach [e, e'] X.env = (false, eval e X.env) :: starEach [e'] X.env := notStar hs
  have nb : starEach [e'] X.env = (false, eval e' X.env) :: starEach [] X.env := notStar hs'
  refine (pe_listRg hc hg hm (prg_2 hg2 hm2 ha hb na nb (noStar (pos := pos2) (by simpa using hs'))) rfl).conseq fun σ H Q ⟨y, c, s, h⟩ => ?_
  simp only [evE, evF] at h
  rw [Post.bind] at h
  refine goZ s h fun fd c1 y1 v H1 x1 s1 r1 q1 => ?_
  rw [Post.bind] at q1
  replace q1 := q1.imp (XW.ext x1) fun _ _ z => z
  refine goZ s1 q1 fun fd2 c2 y2 v2 H2 x2 s2 r2 q2 => ?_
  obtain ⟨f, d⟩ := fd
  obtain ⟨f2, d2⟩ := fd2
  cases d <;> first | exact q2.elim | skip
  cases d2 <;> first | exact q2.elim | skip
  rename_i n m
  have hv : v = .int n := by simpa only [Rp] using r1
  have hv2 : v2 = .int m := by simpa only [Rp] using r2
  subst hv hv2
  have q2 : Post ((ofOpt (rngD [.int n, .int m]) c2).bind fun xs c => .ok (.new Fl.top (.lst xs)) c) (XW ct lv y σ W) fun r c' => ∀ y' v H', Ext y lv y' → SR y' lv c' σ H' → RelR y' lv c' σ H' r v → Q v H' := (Post.imp q2 (fun _ _ z => z) fun _ _ z => z : Post _ _ _)
  rw [Post.bind, Post.ofOpt] at q2
  obtain ⟨xs, e0, q2⟩ := q2
  simp only [rngD] at e0
  split at e0
  · rename_i hz
    rw [Bool.and_eq_true, Bool.and_eq_true, rOk_iff, rOk_iff, dOk_iff] at hz
    cases e0
    have hSZ : (SZ : Int) = 16777216 := rfl
    refine ⟨n, m, rfl, rfl, ⟨by omega, by omega, by omega, by omega, by omega⟩, fun q hq => ?_⟩
    have e2 : ((List.range (m - n).toNat).map fun (k : Nat) => D.int (n + (k : Int))) = ((List.range (m - n).toNat).map fun (k : Nat) => n + (k : Int)).map D.int := by rw [List.map_map]; rfl
    obtain ⟨s3, r3⟩ := s2.newList (f := Fl.top) hq (Rps.ints (sx := y2.sx) (G := regm y2.G lv Fl.top) ((List.range (m - n).toNat).map fun (k : Nat) => n + (k : Int)))
    rw [rgV_eq]
    rw [e2] at q2
    exact q2 y2 _ _ (x1.trans x2) s3 r3
  · cases e0
end
end Sd

/-! Sd10: methods of owned lists. -/
namespace Sd
open PySem PySem.Spec PyProof.Rows L2
section
variable {X : Cx} {ct : Ct} {cl : Caller} {sg : Sig} {W : WX} {lv : Nat} {y : Dy} {c : C} {σ : L2.St} {H : Hp}
theorem Rps.dropLast {sx : List (Addr × Addr)} {G : Hp} {ds : List D} {vs : List V} (h : Rps sx G ds vs) : Rps sx G ds.dropLast vs.dropLast := by
  rw [List.dropLast_eq_take, List.dropLast_eq_take, h.length]; exact h.take _
def mtS : Mt → Str
  | .append => "append" | .extend => "extend" | .pop => "pop"
theorem fewArgs {X : Cx} {es : List Expr} {cpos : Pos} (h : es.any isStar = false) (hl : es.length < 30) :
    ((backTo cpos (starEach es X.env)).all (fun x => !x.1) && (backToKw cpos (keywordEach [] X.env)).all (fun x => x.1.isSome) && decide (es.length + ([] : List Keyword).length + (if ([] : List Keyword).isEmpty then 0 else 1) < 30)) = true := by
  have a : (backTo cpos (starEach es X.env)).all (fun x => !x.1) = true := by
    have := noStar (env := X.env) (pos := cpos) h
    rw [List.all_eq_true]
    intro x hx
    rw [List.any_eq_false] at this
    simpa using this x hx
  rw [a]
  have b : (backToKw cpos (keywordEach [] X.env)).all (fun x => x.1.isSome) = true := rfl
  rw [b]
  simp [hl]
/-- where an owned list stands -/
theorem ownL {i : Nat} (s : SR y lv c σ H) (h : isOwnL c i = true) : ∃ f xs p vs, c.r[i]? = some (.ow f (.lst xs)) ∧ σ[i]? = some (some (.ref p)) ∧ H p = some (.lst vs) ∧ Rps y.sx (regm y.G lv f) xs vs := by
  unfold isOwnL at h
  split at h
  · rename_i f xs hs
    obtain ⟨p, e1, _, _, _, _, vs, h1, h2⟩ := s.slots i _ hs
    exact ⟨f, xs, p, vs, hs, getD_some.mp e1, h1, h2⟩
  · cases h
theorem ownC {i : Nat} {f : Fl} {xs : List D} {p : Addr} (s : SR y lv c σ H) (hs : c.r[i]? = some (.ow f (.lst xs))) (hp : σ[i]? = some (some (.ref p))) : ∃ vs, H p = some (.lst vs) ∧ Rps y.sx (regm y.G lv f) xs vs := by
  obtain ⟨q, e1, _, _, _, _, vs, h1, h2⟩ := s.slots i _ hs
  rw [getD_some.mpr hp] at e1
  cases e1
  exact ⟨vs, h1, h2⟩
theorem evF_len : ∀ {as : List IE} {c : C} {W : Exn → C → Prop} {K : Fl × List D → C → Prop}, Post (evF cl sg lv as c) W K → Post (evF cl sg lv as c) W fun fd c => fd.2.length = as.length ∧ K fd c
  | [], c, W, K, h => by simp only [evF, Post] at h ⊢; exact ⟨rfl, h⟩
  | a :: as, c, W, K, h => by
    simp only [evF] at h ⊢
    rw [Post.bind] at h ⊢
    refine h.imp (fun _ _ z => z) fun fd c1 q => ?_
    rw [Post.bind] at q ⊢
    refine (evF_len q).imp (fun _ _ z => z) fun gd c2 q2 => ?_
    exact ⟨by simp [q2.1], q2.2⟩
theorem e_mthA {a : IE} {i : Nat} {m : Mt} {x : Str} {e : Expr} {p ap pos : Pos} (hN : X.N[i]? = some x) (hv : Vis X.env.scope x) (hd : (x == ("__debug__" : Str)) = false) (hcd : (x == ("__classdict__" : Str)) = false) (hm : m = .append ∨ m = .extend ∨ m = .pop)
    (hl : (ap.endLine == pos.line) = true) (hs : isStar e = false) (ha : PA X [e] (tAf ct cl sg W lv [a])) : PE X (.Call (.Attribute (.Name x p) (mtS m) ap) [e] [] pos) (tE ct cl sg W lv (.mth m i [a])) := by
  have nst : [e].any isStar = false := by simp [hs]
  have few := fewArgs (X := X) (cpos := pos) nst (by simp)
  have go : ∀ {r : V → List V → Hp → VK → Prop}, (∀ (y : Dy) (c : C) (σ : L2.St) (H : Hp) (f g : Fl) (xs ds ys : List D) (vs ws : List V) (q : Addr) (d : D) (Q : VK), ds.length = 1 → mthD m xs ds = some (d, ys) → Rps y.sx (regm y.G lv g) ds vs → H q = some (.lst ws) → Rps y.sx (regm y.G lv f) xs ws → SR y lv c σ H →
      (∀ zs u, Rps y.sx (regm y.G lv (f.join g)) ys zs → Rp y.sx (regm y.G lv (f.join g)) d u → Q u (upd H q (.lst zs))) → r (.ref q) vs H Q) →
      ∀ σ H Q, tE ct cl sg W lv (.mth m i [a]) σ H Q → tBM X.K "list" r (tVar i) (tAf ct cl sg W lv [a]) σ H Q := fun {r} hr σ H Q ⟨y, c, s, h⟩ => by
    simp only [evE] at h
    split at h
    · rename_i ho
      obtain ⟨f0, xs0, q, vs0, h1, h2, h3, h4⟩ := ownL s ho
      refine ⟨_, h2, .inl ⟨rfl, _, .of h3⟩, y, c, s, ?_⟩
      rw [Post.bind] at h
      refine (evF_len h).imp (fun _ _ z => z) fun fd c1 ⟨l1, q1⟩ y1 vs H1 x1 s1 r1 => ?_
      split at q1
      · rename_i f xs hs1
        split at q1
        · rename_i d ys e1
          obtain ⟨ws, h5, h6⟩ := ownC s1 hs1 h2
          exact hr y1 c1 σ H1 f fd.1 xs fd.2 ys vs ws q d Q l1 e1 r1 h5 h6 s1 fun zs u rz ru => q1 y1 u _ x1 (s1.change hs1 h2 rz) (val_ok (s1.change hs1 h2 rz) ru)
        · exact q1.elim
      · exact q1.elim
    · exact h.elim
  have SZ' := SZ_eq
  cases m with
  | append =>
    refine (pe_bm PySem.F.plainAttrs_list PySem.F.slot_list_append PySem.F.type_list_append mt_append (pe_var hN hv hd hcd) ha rfl few hl (notStar hs) rfl).conseq (go fun y c σ H f g xs ds ys vs ws q d Q l1 e1 r1 h5 h6 s1 k => ?_)
    match ds, l1, e1, r1 with
    | [z], _, e1, r1 =>
      obtain ⟨v, r, rfl, r2, r3⟩ := r1.inv
      simp only [Rps] at r3
      subst r3
      simp only [mthD] at e1
      split at e1
      · rename_i hz
        cases e1
        exact ⟨q, ws, v, rfl, rfl, h5, by rw [h6.length, ← SZ']; exact hz, k _ _ ((Rps.mono (Pre.refl _) (regm_join_l s1.g) _ _ h6).append (.cons (Rp.mono (Pre.refl _) (regm_join_r s1.g) _ _ r2) .nil)) (by simp [Rp])⟩
      · cases e1
  | extend =>
    refine (pe_bm PySem.F.plainAttrs_list PySem.F.slot_list_extend PySem.F.type_list_extend mt_extend (pe_var hN hv hd hcd) ha rfl few hl (notStar hs) rfl).conseq (go fun y c σ H f g xs ds ys vs ws q d Q l1 e1 r1 h5 h6 s1 k => ?_)
    match ds, l1, e1, r1 with
    | [.lst zs], _, e1, r1 =>
      obtain ⟨v, r, rfl, r2, r3⟩ := r1.inv
      simp only [Rps] at r3
      subst r3
      simp only [Rp] at r2
      obtain ⟨b, us, rfl, hb, rb⟩ := r2
      simp only [mthD] at e1
      split at e1
      · rename_i hz
        cases e1
        refine ⟨q, b, ws, us, rfl, rfl, h5, s1.top _ _ (regm_sub _ _ hb), by rw [h6.length, rb.length, ← SZ']; exact hz, k _ _ ((Rps.mono (Pre.refl _) (regm_join_l s1.g) _ _ h6).append (Rps.mono (Pre.refl _) (regm_join_r s1.g) _ _ rb)) (by simp [Rp])⟩
      · cases e1
  | pop =>
    refine (pe_bm PySem.F.plainAttrs_list PySem.F.slot_list_pop PySem.F.type_list_pop mt_popAt (pe_var hN hv hd hcd) ha rfl few hl (notStar hs) rfl).conseq (go fun y c σ H f g xs ds ys vs ws q d Q l1 e1 r1 h5 h6 s1 k => ?_)
    match ds, l1, e1, r1 with
    | [.int n], _, e1, r1 =>
      obtain ⟨v, r, rfl, r2, r3⟩ := r1.inv
      simp only [Rps] at r3
      subst r3
      simp only [Rp] at r2
      subst r2
      simp only [mthD] at e1
      split at e1
      · rename_i hz
        split at e1
        · rename_i j hj
          split at e1
          · rename_i d' hd'
            cases e1
            obtain ⟨u, hu, ru⟩ := h6.get hd'
            have hz' : n.natAbs ≤ 16777216 := hz
            refine ⟨q, ws, n, j, u, rfl, rfl, h5, by omega, by omega, by rw [h6.length]; exact (ixN_seq hj).1, hu, k _ _ (Rps.mono (Pre.refl _) (regm_join_l s1.g) _ _ (h6.eraseIdx j)) (Rp.mono (Pre.refl _) (regm_join_l s1.g) _ _ ru)⟩
          · cases e1
        · cases e1
      · cases e1
theorem e_pop0 {i : Nat} {x : Str} {p ap pos : Pos} (hN : X.N[i]? = some x) (hv : Vis X.env.scope x) (hd : (x == ("__debug__" : Str)) = false) (hcd : (x == ("__classdict__" : Str)) = false)
    (hl : (ap.endLine == pos.line) = true) : PE X (.Call (.Attribute (.Name x p) "pop" ap) [] [] pos) (tE ct cl sg W lv (.mth .pop i [])) :=
  (pe_bm0 PySem.F.plainAttrs_list PySem.F.slot_list_pop PySem.F.type_list_pop mt_pop (pe_var hN hv hd hcd) rfl hl).conseq fun σ H Q ⟨y, c, s, h⟩ => by
    simp only [evE, evF] at h
    split at h
    · rename_i ho
      obtain ⟨f0, xs0, q, vs0, h1, h2, h3, h4⟩ := ownL s ho
      refine ⟨_, h2, .inl ⟨rfl, _, .of h3⟩, ?_⟩
      simp only [Out.bind, h1, mthD] at h
      cases e1 : xs0[xs0.length - 1]? with
      | none => rw [e1] at h; exact h.elim
      | some d =>
        rw [e1] at h
        obtain ⟨u, hu, ru⟩ := h4.get e1
        have ru' := Rp.mono (Pre.refl _) (regm_join_l (g := Fl.top) s.g) _ _ ru
        have sr := s.change (g := f0.join Fl.top) h1 h2 (Rps.mono (Pre.refl _) (regm_join_l s.g) _ _ h4.dropLast)
        exact ⟨q, vs0, u, rfl, rfl, h3, by rw [h4.length]; exact hu, h y u _ Ext.refl sr (val_ok sr ru')⟩
    · exact h.elim
end
end Sd

/-! Sd11: what a def promises; a state behind its call. -/
namespace Sd
open PySem PySem.Spec PyProof.Rows L2

/-! ### the promise -/
structure StrO (sx : List (Addr × Addr)) (s : List Stm) (H : Hp) : Prop where
  len : sx.length = s.length
  at_ : ∀ (g : Nat) (p : Addr × Addr) (t : Stm), sx[g]? = some p → s[g]? = some t → H p.1 = some (.lst [.ref p.2, .int t.cur, .int t.cnt, .int t.mix]) ∧ H p.2 = some (.lst (t.cells.map V.int))
  nd : (sx.flatMap fun p => [p.1, p.2]).Nodup
def OffS (sx : List (Addr × Addr)) (A : Hp) : Prop := ∀ p ∈ sx, A p.1 = none ∧ A p.2 = none
/-- the heap behind the call -/
structure Aft (sx : List (Addr × Addr)) (s' : List Stm) (sx' : List (Addr × Addr)) (H H' : Hp) : Prop where
  pre : Pre sx sx'
  str : StrO sx' s' H'
  new : ∀ q ∈ sx', q ∉ sx → H q.1 = none ∧ H q.2 = none
  keep : ∀ a o, H a = some o → NotStr sx a → H' a = some o
/-- where lies what it hands back -/
structure Back (A : Hp) (fl : Fl) (sx' : List (Addr × Addr)) (H H' B : Hp) : Prop where
  sub : Sub B H'
  off : OffS sx' B
  org : ∀ a o, B a = some o → A a = some o ∨ H a = none
  own : 1 ≤ fl.lo → ∀ a o, B a = some o → (∃ xs, o = .tup xs) ∨ H a = none
def ExB (ct : Ct) (sx : List (Addr × Addr)) (B H : Hp) (e : Exn) (cv : Value) (d : Option Addr) : Prop :=
  ∃ C fld dx v, ct e.cls = some (C, fld) ∧ cv = .ref C ∧ d = some dx ∧ H dx = some (.xd [(fld, v)]) ∧ Rp sx B e.arg v
/-- the def f, run by the evaluator, for the arguments' data -/
def spF (ct : Ct) (cf : List D → List Stm → Option (Fl × D × List Stm ⊕ Exn × List Stm)) (n : Nat) : Sp := fun vs H Q E => ∃ sx s ds A, ds.length = n ∧ Sub A H ∧ OffS sx A ∧ StrO sx s H ∧ Rps sx A ds vs ∧
  match cf ds s with
  | some (.inl (fl, d, s')) => ∀ v H' sx' B, Aft sx s' sx' H H' → Back A fl sx' H H' B → Rp sx' B d v → Q v H'
  | some (.inr (e, s')) => ∀ cv d H' sx' B, Aft sx s' sx' H H' → Back A e.fl sx' H H' B → ExB ct sx' B H' e cv d → E cv d H'
  | none => False
theorem spF.len {ct : Ct} {cf : List D → List Stm → Option (Fl × D × List Stm ⊕ Exn × List Stm)} {n : Nat} {vs : List V} {H : Hp} {Q : VK} {E : XK} (h : spF ct cf n vs H Q E) : vs.length = n := by
  obtain ⟨sx, s, ds, A, h1, _, _, _, h2, _⟩ := h
  rw [h2.length, h1]

/-! ### the state behind -/
def mixG (G : Nat → Hp) (lv : Nat) (B H : Hp) : Nat → Hp := fun n => if n < lv then G n else fun a => match G lv a with
  | some o => some o
  | none => match H a with
    | none => B a
    | some _ => none
theorem mixG_low {G : Nat → Hp} {lv n : Nat} {B H : Hp} (h : n < lv) : mixG G lv B H n = G n := by unfold mixG; rw [if_pos h]
theorem mixG_top {G : Nat → Hp} {lv n : Nat} {B H : Hp} (h : lv ≤ n) : mixG G lv B H n = mixG G lv B H lv := by
  unfold mixG; rw [if_neg (by omega), if_neg (by omega)]
theorem mixG_old {G : Nat → Hp} {lv : Nat} {B H : Hp} {a : Addr} {o : HO} (h : G lv a = some o) : mixG G lv B H lv a = some o := by
  unfold mixG; rw [if_neg (by omega)]; show (match G lv a with | some o => _ | none => _) = _; rw [h]
theorem mixG_new {G : Nat → Hp} {lv : Nat} {B H : Hp} {a : Addr} {o : HO} (t : Sub (G lv) H) (h : H a = none) (hb : B a = some o) : mixG G lv B H lv a = some o := by
  unfold mixG; rw [if_neg (by omega)]; show (match G lv a with | some o => _ | none => match H a with | none => B a | some _ => none) = _; rw [t.none h, h]; exact hb
theorem mixG_inv {G : Nat → Hp} {lv : Nat} {B H : Hp} {a : Addr} {o : HO} (h : mixG G lv B H lv a = some o) : G lv a = some o ∨ (G lv a = none ∧ H a = none ∧ B a = some o) := by
  unfold mixG at h
  rw [if_neg (by omega)] at h
  cases e : G lv a with
  | some u =>
    have h : (match G lv a with | some o => some o | none => match H a with | none => B a | some _ => none) = some o := h
    rw [e] at h; exact .inl h
  | none =>
    have h : (match G lv a with | some o => some o | none => match H a with | none => B a | some _ => none) = some o := h
    rw [e] at h
    cases e2 : H a with
    | some u => rw [e2] at h; cases h
    | none => rw [e2] at h; exact .inr ⟨rfl, rfl, h⟩
theorem Gok.mix {G : Nat → Hp} {lv : Nat} {B H : Hp} (k : Gok G lv) : Gok (mixG G lv B H) lv := by
  refine ⟨fun m n h => ?_, fun n h => mixG_top h⟩
  by_cases h1 : n < lv
  · rw [mixG_low h1, mixG_low (by omega)]; exact k.mono m n h
  · rw [mixG_top (by omega : lv ≤ n)]
    by_cases h2 : m < lv
    · rw [mixG_low h2]; exact fun a o e => mixG_old (k.mono m lv (by omega) a o e)
    · rw [mixG_top (by omega : lv ≤ m)]; exact Sub.refl _
theorem Gext.mix {G : Nat → Hp} {lv : Nat} {B H : Hp} : Gext G lv (mixG G lv B H) := ⟨fun n h => mixG_low h, fun a o e => mixG_old e⟩
section
variable {y : Dy} {lv : Nat} {c : C} {σ : L2.St} {H : Hp}
theorem SR.called {A H' B : Hp} {fl : Fl} {sx' : List (Addr × Addr)} {s' : List Stm} (s : SR y lv c σ H) (af : Aft y.sx s' sx' H H') (bk : Back A fl sx' H H' B) :
    Ext y lv { y with G := mixG y.G lv B H, sx := sx' } ∧ SR { y with G := mixG y.G lv B H, sx := sx' } lv { c with s := s' } σ H' := by
  have k' : Gok (mixG y.G lv B H) lv := s.g.mix
  have e : Ext y lv { y with G := mixG y.G lv B H, sx := sx' } := ⟨rfl, rfl, Gext.mix, af.pre⟩
  have mem : ∀ q ∈ y.sx, q ∈ sx' := fun q hq => by obtain ⟨r, hr⟩ := af.pre; rw [hr]; exact List.mem_append_left _ hq
  have offG : ∀ {a : Addr} {o : HO}, y.G lv a = some o → NotStr y.sx a := fun {a o} h q hq => by
    obtain ⟨a1, a2, _, _⟩ := s.str.off q hq
    exact ⟨fun z => (by rw [z, a1] at h; cases h), fun z => (by rw [z, a2] at h; cases h)⟩
  have keep : ∀ {a : Addr} {o : HO}, H a = some o → NotStr y.sx a → H' a = some o := fun {a o} h n => af.keep a o h n
  have live : ∀ q ∈ sx', H' q.1 ≠ none ∧ H' q.2 ≠ none := fun q hq => by
    obtain ⟨g, hg⟩ := List.getElem?_of_mem hq
    have hl : g < s'.length := by rw [← af.str.len]; exact (List.getElem?_eq_some_iff.mp hg).1
    obtain ⟨h1, h2⟩ := af.str.at_ g q _ hg (List.getElem?_eq_getElem hl)
    rw [h1, h2]; exact ⟨Option.some_ne_none _, Option.some_ne_none _⟩
  refine ⟨e, s.pos, s.zb, k', fun a o h => ?_, fun a o h => ?_, fun a h => ?_, fun a o h => ?_, fun i sl hi => ?_, s.inj, ⟨af.str.len, af.str.at_, fun q hq => ?_, af.str.nd⟩, s.len⟩
  · rcases mixG_inv h with h | ⟨_, _, h⟩
    · exact keep (s.top _ _ h) (offG h)
    · exact bk.sub _ _ h
  · refine keep (s.prot _ _ h) fun q hq => ?_
    obtain ⟨_, _, a1, a2⟩ := s.str.off q hq
    have h : y.Z a = some o := h
    exact ⟨fun z => (by rw [z, a1] at h; cases h), fun z => (by rw [z, a2] at h; cases h)⟩
  · have hH := s.old a h
    by_cases hn : NotStr y.sx a
    · obtain ⟨o, ho⟩ := Option.ne_none_iff_exists'.mp hH
      rw [keep ho hn]; exact fun z => by cases z
    · have : ∃ q ∈ y.sx, a = q.1 ∨ a = q.2 := by
        apply Classical.byContradiction
        intro hc
        exact hn fun q hq => ⟨fun z => hc ⟨q, hq, .inl z⟩, fun z => hc ⟨q, hq, .inr z⟩⟩
      obtain ⟨q, hq, z | z⟩ := this
      · rw [z]; exact (live q (mem q hq)).1
      · rw [z]; exact (live q (mem q hq)).2
  · have h : mixG y.G lv B H lv a = some o := h
    show mixG y.G lv B H 0 a = some o ∨ _
    rw [mixG_low (show 0 < lv from s.pos)]
    rcases mixG_inv h with h | ⟨_, h, _⟩
    · exact s.fresh a o h
    · exact .inr (s.gnone h).2.2.1
  · cases sl with
    | un => trivial
    | sh f d =>
      obtain ⟨v, e1, e2⟩ := s.slots i _ hi
      exact ⟨v, e1, Rp.mono af.pre (regm_mono s.g k' e.g) d v e2⟩
    | ow f d =>
      obtain ⟨q, e1, o1, o2, o3, o4, o5⟩ := s.slots i _ hi
      cases d with
      | lst xs =>
        obtain ⟨vs, h1, h2⟩ := o5
        refine ⟨q, e1, ?_, o2, o3, fun r hr => ?_, vs, keep h1 o4, Rps.mono af.pre (regm_mono s.g k' e.g) _ _ h2⟩
        · show mixG y.G lv B H lv q = none
          cases z : mixG y.G lv B H lv q with
          | none => rfl
          | some u =>
            rcases mixG_inv z with z | ⟨_, z, _⟩
            · rw [o1] at z; cases z
            · rw [h1] at z; cases z
        · by_cases hm : r ∈ y.sx
          · exact o4 r hm
          · obtain ⟨n1, n2⟩ := af.new r hr hm
            exact ⟨fun z => (by rw [← z, h1] at n1; cases n1), fun z => (by rw [← z, h1] at n2; cases n2)⟩
      | _ => exact o5.elim
  · have gn : ∀ a, y.G lv a = none → B a = none → mixG y.G lv B H lv a = none := fun a h1 h2 => by
      cases z : mixG y.G lv B H lv a with
      | none => rfl
      | some u =>
        rcases mixG_inv z with z | ⟨_, _, z⟩
        · rw [h1] at z; cases z
        · rw [h2] at z; cases z
    by_cases hm : q ∈ y.sx
    · obtain ⟨a1, a2, a3, a4⟩ := s.str.off q hm
      exact ⟨gn _ a1 (bk.off q hq).1, gn _ a2 (bk.off q hq).2, a3, a4⟩
    · obtain ⟨n1, n2⟩ := af.new q hq hm
      exact ⟨gn _ (s.gnone n1).1 (bk.off q hq).1, gn _ (s.gnone n2).1 (bk.off q hq).2, (s.gnone n1).2.1, (s.gnone n2).2.1⟩
end
/-! ### what comes back -/
mutual
theorem Rp.tups {sx : List (Addr × Addr)} {B G : Hp} (t : ∀ a xs, B a = some (.tup xs) → G a = some (.tup xs)) : ∀ (d : D) (v : V), imm d = true → Rp sx B d v → Rp sx G d v
  | .non, v, _, h => by simpa only [Rp] using h
  | .bl b, v, _, h => by simpa only [Rp] using h
  | .int i, v, _, h => by simpa only [Rp] using h
  | .str x, v, _, h => by simpa only [Rp] using h
  | .lst xs, v, i, h => by simp [imm] at i
  | .tup xs, v, i, h => by
    simp only [Rp] at h ⊢
    obtain ⟨a, vs, e, h1, h2⟩ := h
    exact ⟨a, vs, e, t _ _ h1, Rps.tups t xs vs (by simpa [imm] using i) h2⟩
  | .dic ks ds, v, i, h => by simp [imm] at i
  | .stm k, v, _, h => by simpa only [Rp] using h
  | .obj k, v, _, h => by simpa only [Rp] using h
theorem Rps.tups {sx : List (Addr × Addr)} {B G : Hp} (t : ∀ a xs, B a = some (.tup xs) → G a = some (.tup xs)) : ∀ (ds : List D) (vs : List V), imms ds = true → Rps sx B ds vs → Rps sx G ds vs
  | [], vs, _, h => by simpa only [Rps] using h
  | d :: ds, vs, i, h => by
    obtain ⟨v, r, rfl, h1, h2⟩ := h.inv
    have i' : imm d = true ∧ imms ds = true := by simpa [imms] using i
    exact .cons (Rp.tups t d v i'.1 h1) (Rps.tups t ds r i'.2 h2)
end
section
variable {y : Dy} {lv : Nat} {c : C} {σ : L2.St} {H : Hp}
/-- alone: what it hands back is new, or can't change -/
theorem back_alone {A H' B : Hp} {fl : Fl} {sx' : List (Addr × Addr)} {s' : List Stm} {d : D} {v : V} (s : SR y lv c σ H) (bk : Back A fl sx' H H' B) (hA : ∀ a xs, A a = some (.tup xs) → y.G lv a = some (.tup xs)) (hd : imm d = true ∨ 1 ≤ fl.lo) (r : Rp sx' B d v) :
    Rp sx' (regm (mixG y.G lv B H) lv (.at lv)) d v := by
  have tp : ∀ a xs, B a = some (.tup xs) → mixG y.G lv B H lv a = some (.tup xs) := fun a xs h => by
    rcases bk.org _ _ h with z | z
    · exact mixG_old (hA a xs z)
    · exact mixG_new s.top z h
  rcases hd with hd | hd
  · exact Rp.tups (fun a xs h => regm_tup (tp a xs h)) d v hd r
  · refine Rp.mono (Pre.refl _) (fun a o h => ?_) d v r
    rcases bk.own hd a o h with ⟨xs, rfl⟩ | z
    · exact regm_tup (tp a xs h)
    · refine regm_in (mixG_new s.top z h) (.inr ?_) ?_
      · show mixG y.G lv B H (lv - 1) a = none
        rw [mixG_low (by have := s.pos; omega)]
        exact (s.g.mono (lv - 1) lv (by omega)).none (s.gnone z).1
      · show mixG y.G lv B H lv a ≠ none
        rw [mixG_new s.top z h]; exact fun z => by cases z
/-- with what was passed -/
theorem back_with {H' B : Hp} {fl fj : Fl} {sx' : List (Addr × Addr)} {s' : List Stm} {d : D} {v : V} (s : SR y lv c σ H) (bk : Back (regm y.G lv fj) fl sx' H H' B) (r : Rp sx' B d v) :
    Rp sx' (regm (mixG y.G lv B H) lv (fj.join (.at lv))) d v := by
  refine Rp.mono (Pre.refl _) (fun a o h => ?_) d v r
  rcases bk.org _ _ h with z | z
  · exact regm_join_l s.g.mix _ _ (regm_mono s.g s.g.mix Gext.mix _ _ z)
  · refine regm_join_r s.g.mix _ _ (regm_in (mixG_new s.top z h) (.inr ?_) ?_)
    · show mixG y.G lv B H (lv - 1) a = none
      rw [mixG_low (by have := s.pos; omega)]
      exact (s.g.mono (lv - 1) lv (by omega)).none (s.gnone z).1
    · show mixG y.G lv B H lv a ≠ none
      rw [mixG_new s.top z h]; exact fun z => by cases z

/-! ### what is passed -/
open Classical in
/-- the regions and the owned lists -/
noncomputable def ownA (y : Dy) (lv : Nat) (c : C) (σ : L2.St) (H : Hp) : Hp := fun a => match y.G lv a with
  | some o => some o
  | none => if ∃ i, OwnAt c σ i a then H a else none
theorem ownA_G {a : Addr} {o : HO} (h : y.G lv a = some o) : ownA y lv c σ H a = some o := by unfold ownA; rw [h]
theorem ownA_own {a : Addr} {i : Nat} (s : SR y lv c σ H) (h : OwnAt c σ i a) : ownA y lv c σ H a = H a := by
  obtain ⟨⟨f, d, hf⟩, hs⟩ := h
  obtain ⟨q, e1, o1, _⟩ := s.slots i _ hf
  rw [getD_some.mpr hs] at e1
  cases e1
  unfold ownA
  rw [o1]
  exact if_pos ⟨i, ⟨f, d, hf⟩, hs⟩
theorem ownA_inv {a : Addr} {o : HO} (h : ownA y lv c σ H a = some o) : y.G lv a = some o ∨ (y.G lv a = none ∧ (∃ i, OwnAt c σ i a) ∧ H a = some o) := by
  unfold ownA at h
  cases e : y.G lv a with
  | some u => rw [e] at h; exact .inl h
  | none =>
    rw [e] at h
    dsimp only at h
    split at h
    · rename_i hi; exact .inr ⟨rfl, hi, h⟩
    · cases h
theorem own_list {a : Addr} {i : Nat} (s : SR y lv c σ H) (h : OwnAt c σ i a) : (∃ vs, H a = some (.lst vs)) ∧ NotStr y.sx a := by
  obtain ⟨⟨f, d, hf⟩, hs⟩ := h
  obtain ⟨q, e1, _, _, _, o4, o5⟩ := s.slots i _ hf
  rw [getD_some.mpr hs] at e1
  cases e1
  cases d <;> first | exact o5.elim | exact ⟨⟨_, o5.choose_spec.1⟩, o4⟩
theorem ownA_ok (s : SR y lv c σ H) : Sub (ownA y lv c σ H) H ∧ OffS y.sx (ownA y lv c σ H) ∧ ∀ a xs, ownA y lv c σ H a = some (.tup xs) → y.G lv a = some (.tup xs) := by
  refine ⟨fun a o h => ?_, fun q hq => ?_, fun a xs h => ?_⟩
  · rcases ownA_inv h with h | ⟨_, _, h⟩
    · exact s.top _ _ h
    · exact h
  · have no : ∀ a, (a = q.1 ∨ a = q.2) → ownA y lv c σ H a = none := fun a ha => by
      cases e : ownA y lv c σ H a with
      | none => rfl
      | some o =>
        rcases ownA_inv e with h | ⟨_, ⟨i, h⟩, _⟩
        · obtain ⟨a1, a2, _, _⟩ := s.str.off q hq
          rcases ha with rfl | rfl
          · rw [a1] at h; cases h
          · rw [a2] at h; cases h
        · have := (own_list s h).2 q hq
          rcases ha with z | z
          · exact absurd z this.1
          · exact absurd z this.2
    exact ⟨no _ (.inl rfl), no _ (.inr rfl)⟩
  · rcases ownA_inv h with h | ⟨_, ⟨i, hi⟩, h⟩
    · exact h
    · obtain ⟨⟨vs, hv⟩, _⟩ := own_list s hi
      rw [h] at hv; cases hv
theorem RelO.rpA {r : R} {v : V} {f : Fl} {d : D} (s : SR y lv c σ H) (h : RelO y lv σ r v) (e : Sd.look c r = some (f, d)) : Rp y.sx (ownA y lv c σ H) d v := by
  have up : Sub (regm y.G lv f) (ownA y lv c σ H) := fun a o z => ownA_G (regm_sub _ _ z)
  cases r with
  | val g b =>
    simp only [Sd.look, Option.some.injEq, Prod.mk.injEq] at e
    obtain ⟨rfl, rfl⟩ := e
    exact Rp.mono (Pre.refl _) up _ _ h
  | new g b => exact h.elim
  | bor i =>
    simp only [Sd.look] at e
    split at e
    · rename_i g b hs
      cases e
      obtain ⟨p, e1, _, _, _, _, q2⟩ := s.slots i _ hs
      rw [getD_some.mpr h] at e1
      cases e1
      cases d with
      | lst xs =>
        obtain ⟨vs, a, b⟩ := q2
        simp only [Rp]
        exact ⟨p, vs, rfl, by rw [ownA_own s ⟨⟨f, _, hs⟩, h⟩]; exact a, Rps.mono (Pre.refl _) up _ _ b⟩
      | _ => exact q2.elim
    · rename_i g b hs
      cases e
      obtain ⟨w, e1, q2⟩ := s.slots i _ hs
      rw [getD_some.mpr h] at e1
      cases e1
      exact Rp.mono (Pre.refl _) up _ _ q2
    · cases e
theorem rpsA {rs : List R} {vs : List V} {f : Fl} {ds : List D} (s : SR y lv c σ H) (h : Paired (RelO y lv σ) rs vs) (e : looks c rs = some (f, ds)) : Rps y.sx (ownA y lv c σ H) ds vs := by
  induction h generalizing f ds with
  | nil => simp only [looks, Option.some.injEq, Prod.mk.injEq] at e; obtain ⟨_, rfl⟩ := e; exact Rps.nil
  | @cons r v rs vs h hs ih =>
    simp only [looks] at e
    split at e
    · rename_i f1 d1 g1 ds1 e1 e2
      cases e
      exact .cons (h.rpA s e1) (ih e2)
    · cases e
/-- frozen, the data are as they were -/
theorem frz_eq {lv : Nat} {c c' : C} {r : R} {f : Fl} {d : D} (e : frz lv c r = .ok (f, d) c') : (∃ g, look c r = some (g, d)) ∧ c'.s = c.s ∧ ∀ r2 g d2, look c r2 = some (g, d2) → ∃ g', look c' r2 = some (g', d2) := by
  cases r with
  | val g b => cases e; exact ⟨⟨_, rfl⟩, rfl, fun r2 g d2 h => ⟨g, h⟩⟩
  | new g b => cases e; exact ⟨⟨_, rfl⟩, rfl, fun r2 g d2 h => ⟨g, h⟩⟩
  | bor i =>
    simp only [frz] at e
    split at e
    · rename_i g b hs
      cases e
      refine ⟨⟨g, by simp only [look, hs]⟩, rfl, fun r2 g2 d2 h => ?_⟩
      cases r2 with
      | val g b => exact ⟨_, h⟩
      | new g b => exact ⟨_, h⟩
      | bor j =>
        by_cases hij : i = j
        · subst hij
          simp only [look, hs] at h
          cases h
          have hi := (List.getElem?_eq_some_iff.mp hs).1
          exact ⟨_, by simp only [look]; rw [List.getElem?_set_self hi]⟩
        · refine ⟨g2, ?_⟩
          simp only [look] at h ⊢
          rw [List.getElem?_set_ne hij]; exact h
    · rename_i g b hs
      cases e
      exact ⟨⟨f, by simp only [look, hs]⟩, rfl, fun r2 g d2 h => ⟨g, h⟩⟩
    · cases e
theorem looks_keep {c c' : C} (k : ∀ r2 g d2, look c r2 = some (g, d2) → ∃ g', look c' r2 = some (g', d2)) : ∀ {rs : List R} {f : Fl} {ds : List D}, looks c rs = some (f, ds) → ∃ g, looks c' rs = some (g, ds)
  | [], f, ds, e => by simp only [looks, Option.some.injEq, Prod.mk.injEq] at e; obtain ⟨_, rfl⟩ := e; exact ⟨_, rfl⟩
  | r :: rs, f, ds, e => by
    simp only [looks] at e
    split at e
    · rename_i f1 d1 g1 ds1 e1 e2
      cases e
      obtain ⟨g2, h2⟩ := k _ _ _ e1
      obtain ⟨g3, h3⟩ := looks_keep k e2
      exact ⟨g2.join g3, by simp only [looks, h2, h3]⟩
    · cases e
theorem pairedO {y y' : Dy} {c c' : C} {H H' : Hp} (x : Ext y lv y') (s : SR y lv c σ H) (s' : SR y' lv c' σ H') : ∀ {rs : List R} {vs : List V}, Paired (RelO y lv σ) rs vs → Paired (RelO y' lv σ) rs vs
  | _, _, .nil => .nil
  | _, _, .cons a t => .cons (a.ext x s s') (pairedO x s s' t)
theorem frzs_go {W' : Exn → C → Prop} : ∀ {rs : List R} {vs : List V} {y : Dy} {c : C} {g : Fl} {ds : List D} {K : Fl × List D → C → Prop}, SR y lv c σ H → Paired (RelO y lv σ) rs vs → looks c rs = some (g, ds) → Post (frzs lv rs c) W' K →
    ∃ f c' y', K (f, ds) c' ∧ Ext y lv y' ∧ SR y' lv c' σ H ∧ Rps y'.sx (regm y'.G lv f) ds vs ∧ c'.s = c.s ∧ ∀ r2 g d2, look c r2 = some (g, d2) → ∃ g', look c' r2 = some (g', d2)
  | [], vs, y, c, g, ds, K, s, h, e, q => by
    cases h
    simp only [looks, Option.some.injEq, Prod.mk.injEq] at e
    obtain ⟨_, rfl⟩ := e
    exact ⟨_, c, y, q, Ext.refl, s, Rps.nil, rfl, fun r2 g d2 h => ⟨g, h⟩⟩
  | r :: rs, [], y, c, g, ds, K, s, h, e, q => by cases h
  | r :: rs, v :: vs', y, c, g, ds, K, s, hh, e, q => by
    obtain ⟨h, hs⟩ : RelO y lv σ r v ∧ Paired (RelO y lv σ) rs vs' := by cases hh with | cons a b => exact ⟨a, b⟩
    simp only [looks] at e
    split at e
    · rename_i f1 d1 g1 ds1 e1 e2
      cases e
      simp only [frzs] at q
      rw [Post.bind] at q
      have rr : RelR y lv c σ H r v := by
        cases r with
        | val f d => exact h
        | new f d => exact h.elim
        | bor i => exact h
      cases ef : frz lv c r with
      | ok fd c1 =>
        obtain ⟨f, d⟩ := fd
        obtain ⟨⟨g0, l0⟩, sc, kp⟩ := frz_eq ef
        rw [e1] at l0
        cases l0
        obtain ⟨f', d', c', y', ⟨z1, z2⟩, x, s', r'⟩ := frz_ok (W := W') (K := fun fd c => fd = (f, d1) ∧ c = c1) s rr (by rw [ef]; exact ⟨rfl, rfl⟩)
        cases z1; cases z2
        rw [ef] at q
        have q : Post ((frzs lv rs c1).bind fun (g, ds) c => .ok (f.join g, d1 :: ds) c) W' K := q
        rw [Post.bind] at q
        obtain ⟨g3, h3⟩ := looks_keep kp e2
        have hs' : Paired (RelO y' lv σ) rs vs' := pairedO x s s' hs
        obtain ⟨f2, c2, y2, k2, x2, s2, r2, sc2, kp2⟩ := frzs_go s' hs' h3 q
        refine ⟨_, c2, y2, k2, x.trans x2, s2, .cons (Rp.mono (Pre.refl _) (regm_join_l s2.g) _ _ (Rp.ext x2 s' s2 r')) (Rps.mono (Pre.refl _) (regm_join_r s2.g) _ _ r2), sc2.trans sc, fun r3 g4 d4 h4 => ?_⟩
        obtain ⟨g5, h5⟩ := kp _ _ _ h4
        exact kp2 _ _ _ h5
      | exc e c1 =>
        cases r with
        | val f d => simp [frz] at ef
        | new f d => simp [frz] at ef
        | bor i => simp only [frz] at ef; split at ef <;> cases ef
      | stuck => rw [ef] at q; exact q.elim
    · cases e
end
end Sd

/-! Sd12: a def's call. -/
namespace Sd
open PySem PySem.Spec PyProof.Rows L2

/-- a def as it is called in X -/
structure Cal (X : Cx) (ct : Ct) (cl : Caller) (sg : Sig) (k : Nat) (x : Str) : Prop where
  ex : ∃ fa fd, X.mg x = some (.ref fa) ∧ PySem.W.keepIn X.K (.ref fa) = true ∧ PlainPs fd.params ∧ fd.defaults = .none ∧ fd.params.args.map (·.arg) = sg x ∧ (sg x).Nodup ∧ FnG X.prog X.w X.K X.mg X.base (L2.CX X.prog X.w) k fa fd (sg x) (spF ct (cl x) (sg x).length)
theorem vals_perm {ps ks : List Str} {vs zs : List V} {us ws : List Value} (r : Vals vs us) (rz : Vals zs ws) : Vals (perm .non ps ks vs zs) (perm .none ps ks us ws) := by
  unfold perm
  refine r.append ?_
  rw [r.length]
  generalize ps.drop us.length = qs
  have lk : ∀ q : Str, RelV (((ks.zip zs).lookup q).getD .non) (((ks.zip ws).lookup q).getD .none) := fun q => by
    induction rz generalizing ks with
    | nil => simp only [List.zip_nil_right, List.lookup_nil, Option.getD_none]; rfl
    | cons a t ih =>
      cases ks with
      | nil => simp only [List.zip_nil_left, List.lookup_nil, Option.getD_none]; rfl
      | cons k ks =>
        simp only [List.zip_cons_cons, List.lookup_cons]
        split
        · exact a
        · exact ih
  induction qs with
  | nil => exact .nil
  | cons q qs ih => exact .cons (lk q) ih
theorem rps_perm {sx : List (Addr × Addr)} {G : Hp} {ps ks : List Str} {ds dk : List D} {vs zs : List V} (r : Rps sx G ds vs) (rz : Rps sx G dk zs) : Rps sx G (perm .non ps ks ds dk) (perm .non ps ks vs zs) := by
  unfold perm
  refine r.append ?_
  rw [r.length]
  generalize ps.drop ds.length = qs
  have lk : ∀ (q : Str) (ks : List Str) (dk : List D) (zs : List V), Rps sx G dk zs → Rp sx G (((ks.zip dk).lookup q).getD .non) (((ks.zip zs).lookup q).getD .non) := fun q ks dk => by
    induction dk generalizing ks with
    | nil => intro zs h; simp only [Rps] at h; subst h; simp [Rp]
    | cons d dk ih =>
      intro zs h
      obtain ⟨v, r, rfl, h1, h2⟩ := h.inv
      cases ks with
      | nil => simp [Rp]
      | cons k ks =>
        simp only [List.zip_cons_cons, List.lookup_cons]
        split
        · exact h1
        · exact ih ks r h2
  induction qs with
  | nil => exact Rps.nil
  | cons q qs ih => exact .cons (lk q ks dk zs rz) ih
section
variable {X : Cx} {CX : CXT} {k : Nat} {f : Addr} {fd : FuncData} {ps ks : List Str} {sp : Sp} {E : L2.St → XK} {x : Str} {p pos : Pos} {es : List Expr} {kws : List Keyword} {t tk : TA}
theorem run_fnP {pins : List (Addr × Obj)} {σ : L2.St} {H : Hp} {s : Shared} {Q : VK} {us ws : List Value} {vs zs : List V} (F : FnG X.prog X.w X.K X.mg X.base CX k f fd ps sp) (hr : RoomG k X.A) (pl : PlainPs fd.params) (hd : fd.defaults = .none) (hps : fd.params.args.map (·.arg) = ps) (nd : ps.Nodup)
    (hx : PassesAt CX X σ (E σ)) (I : Inv X pins σ H s) (r : Vals vs us) (rz : Vals zs ws) (ok : permOk ps ks vs.length zs.length = true) (h : sp (perm .non ps ks vs zs) H Q (E σ)) :
    wpAny (model X.prog X.w) X.A (call (.ref f) us (ks.zip ws)) (EP X pins σ Q) X.xe s := by
  rw [r.length, rz.length] at ok
  have b : BindsTo s fd ⟨us, ks.zip ws⟩ (ps.zip (perm .none ps ks us ws)) := BindsTo.of_eq (bind_plain pl hd hps nd ok)
  refine wpAny_call (codeAny_mono (F.run (A := X.A) (Q := Q) (E := E σ) hr I.env0 b (vals_perm r rz) h) fun r s' hq => ?_)
  cases r with
  | error e => exact hx pins H s e s' I hq
  | ok fl =>
    cases fl with
    | ret u => exact I.after hq
    | next => exact False.elim hq
    | brk => exact False.elim hq
    | cont => exact False.elim hq
def tCallP (ps ks : List Str) (sp : Sp) (E : L2.St → XK) (t tk : TA) : TE := fun σ H Q => t σ H fun vs H1 => tk σ H1 fun zs H2 => permOk ps ks vs.length zs.length = true ∧ sp (perm .non ps ks vs zs) H2 Q (E σ)
theorem pe_callP (F : FnG X.prog X.w X.K X.mg X.base CX k f fd ps sp) (hr : RoomG k X.A) (hg : Gl X x) (hm : X.mg x = some (.ref f)) (hk : PySem.W.keepIn X.K (.ref f) = true) (pl : PlainPs fd.params) (hd : fd.defaults = .none) (hps : fd.params.args.map (·.arg) = ps) (nd : ps.Nodup)
    (hx : ∀ σ, PassesAt CX X σ (E σ)) (ha : PA X es t) (hkw : PK X kws tk) (hall : (backToKw pos (keywordEach kws X.env)).all (·.1.isSome) = true) (hks : (backToKw pos (keywordEach kws X.env)).filterMap (·.1) = ks)
    (hdb : (x == ("__debug__" : Str)) = false) (hs : es.any isStar = false) (hn : es = [] → ∀ σ H Q, t σ H Q → Q [] H) : PE X (.Call (.Name x p) es kws pos) (tCallP ps ks sp E t tk) := by
  have hpl : ((backTo pos (starEach es X.env)).any (·.1) || (backToKw pos (keywordEach kws X.env)).any (·.1.isNone)) = false := by
    rw [noStar hs, Bool.false_or, List.any_eq_false]
    intro z hz
    have := List.all_eq_true.mp hall z hz
    cases hz1 : z.1 with
    | none => rw [hz1] at this; cases this
    | some o => simp
  refine ⟨fun pins s σ H Q I h => ?_⟩
  refine wpAny_Call_Name_kw (ld_glob I hg hm ?_ hdb)
  cases es with
  | nil =>
    refine PySem.W.callWith_KW0 (h₀ := X.base) I.ok.mod.kin hk hall ?_ hpl
    have q := hn rfl _ _ _ h
    refine thn (hkw.run pos pins s σ H _ I q) fun ws s2 ⟨zs, H2, I2, rz, ok, q2⟩ => ⟨I2.kIn, ?_⟩
    rw [hks]
    exact run_fnP (us := []) (vs := []) F hr pl hd hps nd (hx σ) I2 .nil rz ok q2
  | cons e es =>
    have h1 : isStar e = false ∧ es.any isStar = false := by simpa using hs
    refine PySem.W.callWith_KW (h₀ := X.base) I.ok.mod.kin hk hall (thn (ha.run pos pins s σ H _ I h) fun us s1 ⟨vs, H1, I1, r, q⟩ => ?_) hpl (notStar h1.1)
    refine thn (hkw.run pos pins s1 σ H1 _ I1 q) fun ws s2 ⟨zs, H2, I2, rz, ok, q2⟩ => ⟨I2.kIn, ?_⟩
    rw [hks]
    exact run_fnP F hr pl hd hps nd (hx σ) I2 r rz ok q2
end

/-! ### by the evaluator -/
theorem kwAll {kws : List Keyword} {ks : List Str} {env : Env} {pos : Pos} (h : kwNames kws = some ks) : (backToKw pos (keywordEach kws env)).all (·.1.isSome) = true ∧ (backToKw pos (keywordEach kws env)).filterMap (·.1) = ks := by
  unfold kwNames at h
  induction kws generalizing ks with
  | nil => simp only [List.mapM_nil, Option.pure_def, Option.some.injEq] at h; subst h; exact ⟨rfl, rfl⟩
  | cons kw kws ih =>
    rw [List.mapM_cons] at h
    obtain ⟨nm, v, kp⟩ := kw
    cases nm with
    | none => simp at h
    | some x =>
      cases e : kws.mapM (fun k => k.arg) with
      | none => rw [e] at h; simp at h
      | some r =>
        rw [e] at h
        simp at h
        subst h
        obtain ⟨h1, h2⟩ := ih e
        refine ⟨?_, ?_⟩
        · show ((some x, _) :: backToKw pos (keywordEach kws env)).all (·.1.isSome) = true
          rw [List.all_cons, h1]; rfl
        · show ((some x, _) :: backToKw pos (keywordEach kws env)).filterMap (·.1) = x :: r
          rw [List.filterMap_cons, h2]
theorem _root_.L2.PK.conseq {X : Cx} {es : List Keyword} {t t' : TA} (h : PK X es t) (i : ∀ σ H Q, t' σ H Q → t σ H Q) : PK X es t' := ⟨fun pos pins s σ H Q I hw => h.run pos pins s σ H Q I (i _ _ _ hw)⟩
section
variable {X : Cx} {ct : Ct} {cl : Caller} {sg : Sig} {W : WX} {lv : Nat} {y : Dy} {c : C} {σ : L2.St} {H : Hp}
theorem k_nil : PK X [] (tAo ct cl sg W lv []) := pk_nil.conseq fun σ H Q ⟨y, c, s, h⟩ => by
  simp only [evA] at h
  exact h y [] H Ext.refl s .nil
theorem k_cons {a : IE} {as : List IE} {e : Expr} {kws : List Keyword} {nm : Option Str} {kp : Pos} (ha : PE X e (tE ct cl sg W lv a)) (hr : PK X kws (tAo ct cl sg W lv as)) : PK X (⟨nm, e, kp⟩ :: kws) (tAo ct cl sg W lv (a :: as)) :=
  (pk_cons ha hr).conseq fun σ H Q ⟨y, c, s, h⟩ => by
    simp only [evA] at h
    refine goOB s h fun ra c1 y1 v H1 x1 s1 r1 q1 => ?_
    rw [Post.bind] at q1
    exact ⟨y1, c1, s1, q1.imp (XW.ext x1) fun rs c2 q2 y2 vs H2 x2 s2 r2 => q2 y2 (v :: vs) H2 (x1.trans x2) s2 (.cons (r1.ext x2 s1 s2) r2)⟩
theorem looks_len {c : C} : ∀ {rs : List R} {f : Fl} {ds : List D}, looks c rs = some (f, ds) → ds.length = rs.length
  | [], f, ds, e => by simp only [looks, Option.some.injEq, Prod.mk.injEq] at e; obtain ⟨_, rfl⟩ := e; rfl
  | r :: rs, f, ds, e => by
    simp only [looks] at e
    split at e
    · rename_i f1 d1 g1 ds1 e1 e2
      cases e
      simp [looks_len e2]
    · cases e
/-- behind the arguments: the def runs -/
theorem call_go {cf : List D → List Stm → Option (Fl × D × List Stm ⊕ Exn × List Stm)} {ps ks : List Str} {ra rk : List R} {vs zs : List V} {g h : Fl} {ds dk args : List D} {Q : VK} (s : SR y lv c σ H) (r1 : Paired (RelO y lv σ) ra vs) (r2 : Paired (RelO y lv σ) rk zs)
    (e1 : looks c ra = some (g, ds)) (e2 : looks c rk = some (h, dk)) (e3 : byName ps ds ks dk = some args)
    (q : Post (match cf args c.s with
        | some (.inl (fl, d, s)) => backF lv fl d ra rk c fun f c => .ok (rv f d) { c with s := s }
        | some (.inr (e, s)) => backF lv e.fl e.arg ra rk c fun f c => .exc { e with fl := f } { c with s := s }
        | none => .stuck) (XW ct lv y σ W) fun r c' => ∀ y' v H', Ext y lv y' → SR y' lv c' σ H' → RelR y' lv c' σ H' r v → Q v H') :
    permOk ps ks vs.length zs.length = true ∧ spF ct cf ps.length (perm .non ps ks vs zs) H Q (WE W σ) := by
  have l1 := looks_len e1
  have l2 := looks_len e2
  have p1 := r1.length
  have p2 := r2.length
  have ok : permOk ps ks ds.length dk.length = true ∧ args = perm .non ps ks ds dk := by
    unfold byName at e3
    split at e3
    · rename_i h; cases e3; exact ⟨h, rfl⟩
    · cases e3
  obtain ⟨ok, rfl⟩ := ok
  refine ⟨by rw [← p1, ← p2, ← l1, ← l2]; exact ok, ?_⟩
  have hlen : (perm D.non ps ks ds dk).length = ps.length := by
    unfold permOk at ok
    simp only [Bool.and_eq_true, decide_eq_true_eq] at ok
    unfold perm
    rw [List.length_append, List.length_map, List.length_drop]
    omega
  have strO : StrO y.sx c.s H := ⟨s.str.len, s.str.at_, s.str.nd⟩
  have ra' := rpsA s r1 e1
  have rk' := rpsA s r2 e2
  obtain ⟨a1, a2, a3⟩ := ownA_ok s
  -- with what was passed: frozen first
  have frzd : ∀ {K : Fl → C → Out R}, Post ((frzs lv ra c).bind fun (g, _) c => (frzs lv rk c).bind fun (h, _) c => K ((g.join h).join (.at lv)) c) (XW ct lv y σ W) (fun r c' => ∀ y' v H', Ext y lv y' → SR y' lv c' σ H' → RelR y' lv c' σ H' r v → Q v H') →
      ∃ fj c' y', Ext y lv y' ∧ SR y' lv c' σ H ∧ c'.s = c.s ∧ y'.sx = y'.sx ∧ Rps y'.sx (regm y'.G lv fj) ds vs ∧ Rps y'.sx (regm y'.G lv fj) dk zs ∧ Post (K (fj.join (.at lv)) c') (XW ct lv y' σ W) fun r c' => ∀ y2 v H', Ext y' lv y2 → SR y2 lv c' σ H' → RelR y2 lv c' σ H' r v → Q v H' := fun {K} z => by
    rw [Post.bind] at z
    obtain ⟨f1, c1, y1, k1, x1, s1, w1, sc1, kp1⟩ := frzs_go s r1 e1 z
    dsimp only at k1
    rw [Post.bind] at k1
    obtain ⟨g3, h3⟩ := looks_keep kp1 e2
    obtain ⟨f2, c2, y2, k2, x2, s2, w2, sc2, kp2⟩ := frzs_go s1 (pairedO x1 s s1 r2) h3 k1
    exact ⟨f1.join f2, c2, y2, x1.trans x2, s2, sc2.trans sc1, rfl, Rps.mono (Pre.refl _) (regm_join_l s2.g) _ _ (Rps.ext x2 s1 s2 w1), Rps.mono (Pre.refl _) (regm_join_r s2.g) _ _ w2, k2.imp (XW.ext (x1.trans x2)) fun r c' k => KE (x1.trans x2) k⟩
  have hx : ∀ {y' : Dy} {c' : C} {A H' B : Hp} {e : Exn} {f : Fl} {sx' : List (Addr × Addr)} {s' : List Stm} {cv : Value} {d : Option Addr}, Ext y lv y' → SR y' lv c' σ H → XW ct lv y' σ W { e with fl := f } { c' with s := s' } → Aft y'.sx s' sx' H H' → Back A e.fl sx' H H' B →
      (∀ v, Rp sx' B e.arg v → Rp sx' (regm (mixG y'.G lv B H) lv f) e.arg v) → ExB ct sx' B H' e cv d → W cv d σ H' := fun {y' c' A H' B e f sx' s' cv d} x s' z af bk up ⟨C0, fld, dx, v, b1, b2, b3, b4, b5⟩ => by
    obtain ⟨x2, s2⟩ := s'.called af bk
    exact z _ H' cv d x2 s2 ⟨C0, fld, dx, v, b1, b2, b3, b4, up v b5⟩
  cases e4 : cf (perm D.non ps ks ds dk) c.s with
  | none => rw [e4] at q; exact q.elim
  | some o =>
    rw [e4] at q
    cases o with
    | inl o =>
      obtain ⟨fl, d, s'⟩ := o
      dsimp only [backF] at q
      split at q
      · rename_i hd
        have hd : imm d = true ∨ 1 ≤ fl.lo := by simpa using hd
        refine ⟨y.sx, c.s, _, _, hlen, a1, a2, strO, rps_perm ra' rk', ?_⟩
        rw [e4]
        intro v H' sx' B af bk r
        obtain ⟨x2, s2⟩ := s.called af bk
        exact q _ v H' x2 s2 (val_ok s2 (back_alone (s' := s') s bk a3 hd r))
      · obtain ⟨fj, c1, y1, x1, s1, sc, _, w1, w2, q1⟩ := frzd (K := fun f c => .ok (rv f d) { c with s := s' }) q
        refine ⟨y1.sx, c.s, _, regm y1.G lv fj, hlen, regm_sub.trans s1.top, fun z hz => ?_, by rw [← sc]; exact ⟨s1.str.len, s1.str.at_, s1.str.nd⟩, rps_perm w1 w2, ?_⟩
        · obtain ⟨b1, b2, _, _⟩ := s1.str.off z hz
          exact ⟨Sub.none regm_sub b1, Sub.none regm_sub b2⟩
        · rw [e4]
          intro v H' sx' B af bk r
          obtain ⟨x2, s2⟩ := s1.called af bk
          exact q1 _ v H' x2 s2 (val_ok s2 (back_with (s' := s') s1 bk r))
    | inr o =>
      obtain ⟨e, s'⟩ := o
      dsimp only [backF] at q
      split at q
      · rename_i hd
        have hd : imm e.arg = true ∨ 1 ≤ e.fl.lo := by simpa using hd
        refine ⟨y.sx, c.s, _, _, hlen, a1, a2, strO, rps_perm ra' rk', ?_⟩
        rw [e4]
        intro cv d H' sx' B af bk r
        exact hx Ext.refl s q af bk (fun v r => back_alone (s' := s') s bk a3 hd r) r
      · obtain ⟨fj, c1, y1, x1, s1, sc, _, w1, w2, q1⟩ := frzd (K := fun f c => .exc { e with fl := f } { c with s := s' }) q
        refine ⟨y1.sx, c.s, _, regm y1.G lv fj, hlen, regm_sub.trans s1.top, fun z hz => ?_, by rw [← sc]; exact ⟨s1.str.len, s1.str.at_, s1.str.nd⟩, rps_perm w1 w2, ?_⟩
        · obtain ⟨b1, b2, _, _⟩ := s1.str.off z hz
          exact ⟨Sub.none regm_sub b1, Sub.none regm_sub b2⟩
        · rw [e4]
          intro cv d H' sx' B af bk r
          exact hx x1 s1 q1 af bk (fun v r => back_with (s' := s') s1 bk r) r
theorem e_call {k : Nat} {x : Str} {as kas : List IE} {ks : List Str} {es : List Expr} {kws : List Keyword} {p pos : Pos} (hr : RoomG k X.A) (tk : Takes X W) (F : Cal X ct cl sg k x) (hg : Gl X x) (hdb : (x == ("__debug__" : Str)) = false)
    (ha : PA X es (tAo ct cl sg W lv as)) (hl : as.length = es.length) (hs : es.any isStar = false) (hk : PK X kws (tAo ct cl sg W lv kas)) (hn : kwNames kws = some ks) : PE X (.Call (.Name x p) es kws pos) (tE ct cl sg W lv (.call x as ks kas)) := by
  obtain ⟨fa, fd, f1, f2, f3, f4, f5, f6, f7⟩ := F.ex
  obtain ⟨k1, k2⟩ := kwAll (env := X.env) (pos := pos) hn
  refine (pe_callP (E := WE W) f7 hr hg f1 f2 f3 f4 f5 f6 (fun σ => passAt tk σ) ha hk k1 k2 hdb hs (fun e σ H Q ⟨y, c, s, h⟩ => ?_)).conseq fun σ H Q ⟨y, c, s, h⟩ => ?_
  · subst e
    match as, hl with
    | [], _ =>
      simp only [evA] at h
      exact h y [] H Ext.refl s .nil
  · simp only [evE] at h
    rw [Post.bind] at h
    refine ⟨y, c, s, h.imp (fun _ _ z => z) fun ra c1 q1 y1 vs H1 x1 s1 r1 => ?_⟩
    rw [Post.bind] at q1
    refine ⟨y1, c1, s1, q1.imp (XW.ext x1) fun rk c2 q2 y2 zs H2 x2 s2 r2 => ?_⟩
    split at q2
    · rename_i g ds h dk e1 e2
      split at q2
      · rename_i args e3
        exact call_go s2 (pairedO x2 s1 s2 r1) r2 e1 e2 e3 (q2.imp (XW.ext (x1.trans x2)) fun r c' k => KE (x1.trans x2) k)
      · exact q2.elim
    · exact q2.elim
end
end Sd

/-! Sd13: what loops walk: enumerate with a start, zip, of lists and tuples alike. -/
namespace Sd
open PySem PySem.Spec PyProof.Rows L2

/-- a list (tuple) of these items at a -/
def SeqH (tup : Bool) (H : Hp) (a : Addr) (xs : List V) : Prop := H a = some (if tup then .tup xs else .lst xs)
/-- its iterator at turn i -/
def SeqIt (tup : Bool) (h : Heap) (it a : Addr) (i : Nat) : Prop := if tup then h.IsTupleIter it a i else h.IsListIter it a i
def SeqAt (tup : Bool) (h : Heap) (a : Addr) (its : Array Value) : Prop := if tup then h.IsTuple a its else h.IsList a its
theorem seq_val {X : Cx} {pins : List (Addr × Obj)} {σ : L2.St} {H : Hp} {s : Shared} {tup : Bool} {a : Addr} {xs : List V} (I : Inv X pins σ H s) (h : SeqH tup H a xs) : ∃ its : List Value, Vals xs its ∧ SeqAt tup s.heap a its.toArray := by
  cases tup with
  | false => obtain ⟨its, r, p, _⟩ := I.list (SqL.of h); exact ⟨its, r, p.isList⟩
  | true => obtain ⟨its, r, p, _⟩ := I.tuple (SqT.of h); exact ⟨its, r, p⟩
theorem seq_draws {prog : Program} {w : World} {A : Around} {tup : Bool} (hh : A.handled = none) (it a : Addr) (hne : a ≠ it) (its : Array Value) :
    Draws prog w A it [it, a] its.size (fun i v => its[i]? = some v) (fun i h => SeqIt tup h it a i ∧ SeqAt tup h a its) := by
  cases tup with
  | false => exact Draws.list hh it a hne its
  | true => exact Draws.tuple hh it a hne its
theorem seqIt_at {tup : Bool} {h h' : Heap} {it a : Addr} {i : Nat} (x : SeqIt tup h it a i) (k : ∀ o, h.get? it = some o → h'.get? it = some o) : SeqIt tup h' it a i := by
  cases tup with
  | false => exact Heap.IsListIter.at x k
  | true => exact Heap.IsTupleIter.at x k
theorem seqIt_obj {tup : Bool} {h : Heap} {it a : Addr} {i : Nat} (x : SeqIt tup h it a i) : ∃ o, h.get? it = some o ∧ ∀ v, o.data ≠ .cell v := by
  cases tup with
  | false => obtain ⟨o, ho, hc, hd⟩ := (show h.IsListIter it a i from x); exact ⟨o, ho, fun v q => by rw [hd] at q; cases q⟩
  | true => obtain ⟨o, ho, hc, hd⟩ := (show h.IsTupleIter it a i from x); exact ⟨o, ho, fun v q => by rw [hd] at q; cases q⟩
/-- n turns while Gd stands; each a new tuple that P2 tells -/
def Itw (n : Nat) (Gd : Hp → Prop) (P2 : Nat → List V → Prop) : It :=
  ⟨fun i H => Gd H ∧ i < n, fun i H v H' => ∃ T vs, v = .ref T ∧ H T = none ∧ H' = upd H T (.tup vs) ∧ P2 i vs, fun i H => Gd H ∧ i = n⟩
/-- from a walk that makes tuples -/
theorem turn_of {P : Program} {w : World} {K : PySem.W.Frag} {elts : List Expr} {kk : Nat} {tpos : Pos} {n : Nat} {Gd : Hp → Prop} {P2 : Nat → List V → Prop} {e : Addr} {fp wr : List Addr} {tn : Nat → Heap → Prop}
    (mem : e ∈ fp) (sub : ∀ b ∈ wr, b ∈ fp) (obj : ∀ i h, tn i h → ∀ b ∈ fp, ∃ o, h.get? b = some o ∧ ∀ v, o.data ≠ .cell v)
    (keep : ∀ i h h', tn i h → (∀ b ∈ fp, ∀ o, h.get? b = some o → h'.get? b = some o) → tn i h')
    (self : ∀ (A : Around) (i : Nat) (s : Shared) (Q : Value → Shared → Prop) (E : Value → Shared → Prop), tn i s.heap → Q (.ref e) s → wpAny (model P w) A (pyIter (.ref e)) Q E s)
    (hw : ∀ (X : Cx), X.prog = P → X.w = w → X.K = K → X.calm = true → ∀ (i : Nat) (pins : List (Addr × Obj)) (s : Shared) (σ : L2.St) (H : Hp), Inv X pins σ H s → (∀ b ∈ fp, FpOk X pins H b) → tn i s.heap → Gd H →
      ∃ fpW Pt St Mid, WalksT P w X.A e fpW wr n Pt St Mid ∧ St i s.heap ∧ (∀ i h, St i h → tn i h) ∧ ∀ i vals, Pt i vals → ∃ vs, P2 i vs ∧ Vals vs vals.toList ∧ vs.length ≤ 2) :
    Turn P w K (.Tuple elts kk tpos) (Itw n Gd P2) fp e tn where
  mem := mem
  obj := obj
  keep := keep
  item := by
    intro X hP hwo hK hc i pins s σ H E I hf st hg
    subst hP hwo hK
    obtain ⟨fpW, Pt, St, Mid, W, st', back, pt⟩ := hw X rfl rfl rfl hc i pins s σ H I hf st hg.1
    have lts : ∀ b ∈ fp, b < s.heap.objs.size := fun b hb => by obtain ⟨o, ho, _⟩ := obj i _ st b hb; exact Heap.lt_size ho
    refine W.item i s _ _ hg.2 st' fun T vals h' tk hp hT isT mid hk => ⟨_, rfl, ?_⟩
    refine W.go elts kk tpos i T { s with heap := h', toks := tk } _ _ mid fun h'' st2 hk2 => ?_
    obtain ⟨vs, p2, rv, hl⟩ := pt i vals hp
    have isT2 : h''.IsTuple T vals := by
      have ap := W.apart i T h' mid
      exact Heap.IsTuple.at isT fun o ho => hk2 T o ap ho
    have hn : H T = none := I.hok.fresh hT
    have new : ObjOk X.prog X.w (upd H T (.tup vs)) h'' T (.tup vs) := ⟨Nat.le_trans hl (by show 2 ≤ sizeLine; decide), vals.toList, rv, by rw [Array.toArray_toList]; exact isT2⟩
    have I1 : Inv X pins σ (upd H T (.tup vs)) { s with heap := h'', toks := tk } :=
      I.turnedNew (t' := tk) (ch := fp) (fun b o hb q => hk2 b o (fun z => hb (sub b z)) (hk b o (fun z => hb (sub b z)) q)) hf hT new
    refine ⟨.ref T, _, I1, rfl, ⟨T, vs, rfl, hn, rfl, p2⟩, back _ _ st2, fun b hb => ?_⟩
    rw [upd_ne (Nat.ne_of_lt (Nat.lt_of_lt_of_le (lts b hb) hT))]
    exact (hf b hb).1
  done := by
    intro X hP hwo hK hc i pins s σ H E I hf st hg
    subst hP hwo hK
    obtain ⟨hg, rfl⟩ := hg
    obtain ⟨fpW, Pt, St, Mid, W, st', back, pt⟩ := hw X rfl rfl rfl hc i pins s σ H I hf st hg
    exact W.done s _ _ st' fun h' tk hk => ⟨rfl, I.turnedL (t' := tk) (ch := fp) (fun b o hb q => hk b o (fun z => hb (sub b z)) q) hf⟩
  self := self

/-! ### enumerate -/
def PEn (k0 : Int) (xs : List V) : Nat → List V → Prop := fun i vs => ∃ x, xs[i]? = some x ∧ vs = [.int (k0 + (i : Nat)), x]
theorem turn_en {P : Program} {w : World} {K : PySem.W.Frag} {elts : List Expr} {kk : Nat} {tpos : Pos} {tup : Bool} {a e it : Addr} {k0 : Int} {xs : List V} (hne : e ≠ it) :
    Turn P w K (.Tuple elts kk tpos) (Itw xs.length (fun H => SeqH tup H a xs) (PEn k0 xs)) [e, it] e (fun i h => (∃ old, IsEnum h e it (k0 + (i : Nat)) old) ∧ SeqIt tup h it a i) := by
  refine turn_of (wr := [e, it]) (by simp) (fun b hb => hb) (fun i h st b hb => ?_) (fun i h h' st k => ?_) (fun A i s Q E st h => ?_) fun X hP hw hK hc i pins s σ H I hf st hg => ?_
  · obtain ⟨⟨old, he⟩, hi⟩ := st
    rcases (by simpa using hb : b = e ∨ b = it) with z | z
    · rw [z]; exact ⟨_, he, fun v q => nomatch q⟩
    · rw [z]; exact seqIt_obj hi
  · obtain ⟨⟨old, he⟩, hi⟩ := st
    exact ⟨⟨old, k e (by simp) _ he⟩, seqIt_at hi fun o q => k it (by simp) o q⟩
  · obtain ⟨⟨old, he⟩, hi⟩ := st
    exact wpAny_pyIter_enum he h
  · subst hP hw hK
    obtain ⟨its, rv, sa⟩ := seq_val I hg
    have live : ∀ b ∈ [e, it], b ≠ a := fun b hb z => by
      have := (hf b hb).1
      rw [z, (show H a = _ from hg)] at this; cases this
    have hl := rv.length
    have W := WalksT.enumFrom k0 (seq_draws (prog := X.prog) (w := X.w) (tup := tup) (show X.A.in1.handled = none from I.ok.hd hc) it a (Ne.symm (live it (by simp))) its.toArray) e hne
      (fun hm => by
        rcases (by simpa using hm : e = it ∨ e = a) with z | z
        · exact hne z
        · exact live e (by simp) z) (by simp)
    have hsz : its.toArray.size = xs.length := by rw [List.size_toArray, hl]
    rw [hsz] at W
    refine ⟨_, _, _, _, W, ⟨st.1, st.2, sa⟩, fun i h st => ⟨st.1, st.2.1⟩, fun i vals hp => ?_⟩
    obtain ⟨t, x, hx, rfl⟩ := hp
    have hx : its[i]? = some x := by simpa using hx
    have hi : i < xs.length := by rw [hl]; exact (List.getElem?_eq_some_iff.mp hx).1
    obtain ⟨u, hu, ru⟩ := rv.get (List.getElem?_eq_getElem hi)
    rw [hx] at hu; cases hu
    exact ⟨[.int (k0 + (i : Nat)), xs[i]], ⟨xs[i], List.getElem?_eq_getElem hi, rfl⟩, .cons ⟨t, rfl⟩ (.cons ru .nil), by simp⟩

/-! ### zip -/
def PZp (xs ys : List V) : Nat → List V → Prop := fun i vs => ∃ x y, xs[i]? = some x ∧ ys[i]? = some y ∧ vs = [x, y]
theorem turn_zp {P : Program} {w : World} {K : PySem.W.Frag} {elts : List Expr} {kk : Nat} {tpos : Pos} {t1 t2 : Bool} {a b z TI TO i1 i2 : Addr} {xs ys : List V} (nd : [z, TI, TO, i1, i2].Nodup) :
    Turn P w K (.Tuple elts kk tpos) (Itw (min xs.length ys.length) (fun H => SeqH t1 H a xs ∧ SeqH t2 H b ys) (PZp xs ys)) [z, TI, TO, i1, i2] z
      (fun i h => IsZip h z TI TO .none ∧ IsTupOf2 h TI (.ref i1) (.ref i2) ∧ (∃ a1 a2, IsTupOf2 h TO a1 a2) ∧ SeqIt t1 h i1 a i ∧ SeqIt t2 h i2 b i) := by
  have nd' : (z ≠ TI ∧ z ≠ TO ∧ z ≠ i1 ∧ z ≠ i2) ∧ (TI ≠ TO ∧ TI ≠ i1 ∧ TI ≠ i2) ∧ (TO ≠ i1 ∧ TO ≠ i2) ∧ i1 ≠ i2 := by simpa using nd
  obtain ⟨⟨n1, n2, n3, n4⟩, ⟨n5, n6, n7⟩, ⟨n8, n9⟩, n10⟩ := nd'
  refine turn_of (wr := [z, TO, i1, i2]) (by simp) (fun c hc => ?_) (fun i h st c hc => ?_) (fun i h h' st k => ?_) (fun A i s Q E st h => wpAny_pyIter_zip st.1 h) fun X hP hw hK hc i pins s σ H I hf st hg => ?_
  · rcases (by simpa using hc : c = z ∨ c = TO ∨ c = i1 ∨ c = i2) with q | q | q | q <;> (rw [q]; simp)
  · obtain ⟨hz, hTI, ⟨x, y, hTO⟩, h1, h2⟩ := st
    rcases (by simpa using hc : c = z ∨ c = TI ∨ c = TO ∨ c = i1 ∨ c = i2) with q | q | q | q | q
    · rw [q]; exact ⟨_, hz, fun v q => nomatch q⟩
    · rw [q]; exact ⟨_, hTI, fun v q => nomatch q⟩
    · rw [q]; exact ⟨_, hTO, fun v q => nomatch q⟩
    · rw [q]; exact seqIt_obj h1
    · rw [q]; exact seqIt_obj h2
  · obtain ⟨hz, hTI, ⟨x, y, hTO⟩, h1, h2⟩ := st
    exact ⟨k z (by simp) _ hz, k TI (by simp) _ hTI, ⟨x, y, k TO (by simp) _ hTO⟩, seqIt_at h1 fun o q => k i1 (by simp) o q, seqIt_at h2 fun o q => k i2 (by simp) o q⟩
  · subst hP hw hK
    obtain ⟨its, rv, sa⟩ := seq_val I hg.1
    obtain ⟨its2, rv2, sa2⟩ := seq_val I hg.2
    have live : ∀ c ∈ [z, TI, TO, i1, i2], c ≠ a ∧ c ≠ b := fun c hb => by
      have q := (hf c hb).1
      refine ⟨fun z => ?_, fun z => ?_⟩
      · rw [z, (show H a = _ from hg.1)] at q; cases q
      · rw [z, (show H b = _ from hg.2)] at q; cases q
    have hh : X.A.in1.handled = none := I.ok.hd hc
    have l1 := rv.length
    have l2 := rv2.length
    have W := WalksT.zipD2 (fp1 := [i1, a]) (fp2 := [i2, b]) (z := z) (TI := TI) (TO := TO) ⟨Ne.symm n1, Ne.symm n2, n5, n6, by simp, by simp [n3, (live z (by simp)).1], by simp [n8, (live TO (by simp)).1], n7, by simp, by simp [n4, (live z (by simp)).2], by simp [n9, (live TO (by simp)).2],
      by simp [n10, (live i1 (by simp)).2], by simp [Ne.symm n10, (live i2 (by simp)).1]⟩
      (seq_draws (prog := X.prog) (w := X.w) (tup := t1) hh i1 a (Ne.symm (live i1 (by simp)).1) its.toArray) (seq_draws (prog := X.prog) (w := X.w) (tup := t2) hh i2 b (Ne.symm (live i2 (by simp)).2) its2.toArray)
    have hsz : its.toArray.size = xs.length := by rw [List.size_toArray, l1]
    have hsz2 : its2.toArray.size = ys.length := by rw [List.size_toArray, l2]
    rw [hsz, hsz2] at W
    obtain ⟨hz, hTI, hTO, h1, h2⟩ := st
    refine ⟨_, _, _, _, W, ⟨hz, hTI, hTO, ⟨h1, sa⟩, h2, sa2⟩, fun i h st => ⟨st.1, st.2.1, st.2.2.1, st.2.2.2.1.1, st.2.2.2.2.1⟩, fun i vals hp => ?_⟩
    obtain ⟨x, y, hx, hy, rfl⟩ := hp
    have hx : its[i]? = some x := by simpa using hx
    have hy : its2[i]? = some y := by simpa using hy
    have hi : i < xs.length := by rw [l1]; exact (List.getElem?_eq_some_iff.mp hx).1
    have hj : i < ys.length := by rw [l2]; exact (List.getElem?_eq_some_iff.mp hy).1
    obtain ⟨u, hu, ru⟩ := rv.get (List.getElem?_eq_getElem hi)
    obtain ⟨u2, hu2, ru2⟩ := rv2.get (List.getElem?_eq_getElem hj)
    rw [hx] at hu; cases hu
    rw [hy] at hu2; cases hu2
    exact ⟨[xs[i], ys[i]], ⟨xs[i], ys[i], List.getElem?_eq_getElem hi, List.getElem?_eq_getElem hj, rfl⟩, .cons ru (.cons ru2 .nil), by simp⟩

/-! ### the calls -/
theorem seq_begins (tup : Bool) (a : Addr) (its : Array Value) : ∃ o, Begins (.ref a) o (fun h => SeqAt tup h a its) ∧ ∀ h it, h.get? it = some o → SeqIt tup h it a 0 := by
  cases tup with
  | false => exact ⟨_, begins_list a its, fun h it e => ⟨_, e, rfl, rfl⟩⟩
  | true => exact ⟨_, begins_tuple a its, fun h it e => ⟨_, e, rfl, rfl⟩⟩
def iEn (ta : TA) : TI := fun σ H R => ta σ H fun vs H1 => ∃ a xs tup k0, vs = [.ref a, .int k0] ∧ SeqH tup H1 a xs ∧ -(2 ^ 63) ≤ k0 ∧ k0 < 2 ^ 63 ∧ R (Itw xs.length (fun H => SeqH tup H a xs) (PEn k0 xs)) H1
theorem pi_en {X : Cx} {e e2 : Expr} {ta : TA} {p pos tpos : Pos} {elts : List Expr} {kk : Nat} (hg : Gl X "enumerate") (hm : X.mg "enumerate" = none) (ha : PA X [e, e2] ta) (h1 : isStar e = false) (h2 : isStar e2 = false) :
    PI X (.Tuple elts kk tpos) (.Call (.Name "enumerate" p) [e, e2] [] pos) (iEn ta) := by
  refine ⟨fun pins s σ H R I h => ?_⟩
  refine Call_ (ld_blt I hg hm boot_enumerate (PyProof.Rows.callWith_type1 (thn (ha.run pos pins s σ H _ I h) fun us s1 ⟨vs, H1, I1, r1, q1⟩ => ?_) (notStar h1) (noStar (by simp [h2]))))
  obtain ⟨a, xs, tup, k0, rfl, hq, b1, b2, q⟩ := q1
  obtain ⟨u, u2, rfl, ru, ru2⟩ := r1.two
  cases ru
  obtain ⟨t, rfl⟩ := ru2
  obtain ⟨its, rv, sa⟩ := seq_val I1 hq
  obtain ⟨o, B, sit⟩ := seq_begins tup a its.toArray
  refine enum_begins B sa b1 b2 fun h' he ho hsz hk => wpAny_pyIter_enum he ?_
  have I2 : Inv X pins σ H1 { s1 with heap := h' } := I1.kept (t' := s1.toks) hk
  refine ⟨s1.heap.objs.size + 1, [s1.heap.objs.size + 1, s1.heap.objs.size], _, _, H1, rfl, I2, turn_en (Nat.succ_ne_self _), ⟨⟨.none, by simpa using he⟩, sit _ _ ho⟩, fun b hb => ?_, q⟩
  have hle : s1.heap.objs.size ≤ b := by
    rcases (by simpa using hb : b = s1.heap.objs.size + 1 ∨ b = s1.heap.objs.size) with z | z <;> (rw [z]; first | exact Nat.le_add_right _ _ | exact Nat.le_refl _)
  exact I1.fpOk hle (I1.hok.fresh hle)
def iZp (ta : TA) : TI := fun σ H R => ta σ H fun vs H1 => ∃ a b xs ys t1 t2, vs = [.ref a, .ref b] ∧ SeqH t1 H1 a xs ∧ SeqH t2 H1 b ys ∧ R (Itw (min xs.length ys.length) (fun H => SeqH t1 H a xs ∧ SeqH t2 H b ys) (PZp xs ys)) H1
theorem pi_zp {X : Cx} {e e2 : Expr} {ta : TA} {p pos tpos : Pos} {elts : List Expr} {kk : Nat} (hg : Gl X "zip") (hm : X.mg "zip" = none) (ha : PA X [e, e2] ta) (h1 : isStar e = false) (h2 : isStar e2 = false) :
    PI X (.Tuple elts kk tpos) (.Call (.Name "zip" p) [e, e2] [] pos) (iZp ta) := by
  refine ⟨fun pins s σ H R I h => ?_⟩
  refine Call_ (ld_blt I hg hm PyProof.Rows.boot_zip (PyProof.Rows.callWith_type1 (thn (ha.run pos pins s σ H _ I h) fun us s1 ⟨vs, H1, I1, r1, q1⟩ => ?_) (notStar h1) (noStar (by simp [h2]))))
  obtain ⟨a, b, xs, ys, t1, t2, rfl, hq, hq2, q⟩ := q1
  obtain ⟨u, u2, rfl, ru, ru2⟩ := r1.two
  cases ru
  cases ru2
  obtain ⟨its, rv, sa⟩ := seq_val I1 hq
  obtain ⟨its2, rv2, sa2⟩ := seq_val I1 hq2
  obtain ⟨o, B, sit⟩ := seq_begins t1 a its.toArray
  obtain ⟨o2, B2, sit2⟩ := seq_begins t2 b its2.toArray
  refine zip_begins2 B B2 sa sa2 fun h' hz hTI hTO ho ho2 hsz hk => wpAny_pyIter_zip hz ?_
  have I2 : Inv X pins σ H1 { s1 with heap := h' } := I1.kept (t' := s1.toks) hk
  refine ⟨s1.heap.objs.size + 4, [s1.heap.objs.size + 4, s1.heap.objs.size + 2, s1.heap.objs.size + 3, s1.heap.objs.size, s1.heap.objs.size + 1], _, _, H1, rfl, I2, turn_zp ?_, ⟨hz, hTI, ⟨_, _, hTO⟩, sit _ _ ho, sit2 _ _ ho2⟩, fun c hb => ?_, q⟩
  · simp
  · have hle : s1.heap.objs.size ≤ c := by
      rcases (by simpa using hb : c = s1.heap.objs.size + 4 ∨ c = s1.heap.objs.size + 2 ∨ c = s1.heap.objs.size + 3 ∨ c = s1.heap.objs.size ∨ c = s1.heap.objs.size + 1) with z | z | z | z | z <;> (rw [z]; first | exact Nat.le_add_right _ _ | exact Nat.le_refl _)
    exact I1.fpOk hle (I1.hok.fresh hle)
end Sd

/-! Sd14: enumerate of one thing; what loops walk, by the evaluator. -/
namespace Sd
open PySem PySem.Spec PyProof.Rows L2

abbrev enObj (n : Nat) : Obj := { cls := .type "enumerate", data := .fields #[.none, .bool false, .ref n, rawInt 0, .none, .none] }
set_option maxHeartbeats 1000000 in
theorem meets_en1 {v : Value} {ob : Obj} {Hb : Heap → Prop} (Bg : Begins v ob Hb) :
    Meets (Builtin.«enumerate.__new__» ⟨[.type "enumerate", v], []⟩) (fun _ Rr st => Hb st.heap ∧ Rr (.ok (.ret (.ref (st.heap.push ob).objs.size))) { st with heap := (st.heap.push ob).push (enObj st.heap.objs.size) }) :=
  .of_wp fun pr wo Ar Rr st hs => by
    obtain ⟨hp, g, d, tk, os⟩ := st
    obtain ⟨hb, hs⟩ := hs
    have hsub := sub_enumerate
    have qq : ∀ {A2 : Around} {E2 : Value → Shared → Prop} {Q2 : Value → Shared → Prop}, Q2 (.ref hp.objs.size) ⟨hp.push ob, g, d, tk, os⟩ → wpAny (model pr wo) A2 (pyIter v) Q2 E2 ⟨hp, g, d, tk, os⟩ := fun z => Bg.iter pr wo _ _ ⟨hp, g, d, tk, os⟩ _ hb z
    wp_walk using qq
    refine wpAny_stack_any fun sk => wpAny_pure ?_
    split
    · rename_i cc _ _ _ _ _
      cases (cc == Value.type "enumerate")
      · wp_walk using qq
        exact ⟨_, rfl, hs⟩
      · wp_walk using qq
        exact ⟨_, rfl, hs⟩
    · wp_walk using qq
      exact ⟨_, rfl, hs⟩
theorem en1_begins {pr : Program} {wo : World} {Ar : Around} {E : Value → Shared → Prop} {st : Shared} {v : Value} {ob : Obj} {Hb : Heap → Prop} {Q : Value → Shared → Prop} (Bg : Begins v ob Hb) (hb : Hb st.heap)
    (k : ∀ h', IsEnum h' (st.heap.objs.size + 1) st.heap.objs.size 0 .none → h'.get? st.heap.objs.size = some ob → (∀ b o, st.heap.get? b = some o → h'.get? b = some o) → Q (.ref (st.heap.objs.size + 1)) { st with heap := h' }) :
    wpAny (model pr wo) Ar (call (.type "enumerate") [v]) Q E st := by
  refine callType_new PySem.F.called_enumerate (by decide) (PySem.F.typeCall_enumerate_1 _) (PySem.F.newCall_enumerate_1 _) (fun obj => PySem.F.args_object_init_2 obj _) PySem.F.entry_enumerate_new (meets_en1 Bg) ⟨hb, ?_⟩
  have hz : (st.heap.push ob).objs.size = st.heap.objs.size + 1 := Heap.size_push ..
  show _ ∧ _
  rw [hz]
  have he : IsEnum ((st.heap.push ob).push (enObj st.heap.objs.size)) (st.heap.objs.size + 1) st.heap.objs.size 0 .none := by
    have z := Heap.get?_push_size (st.heap.push ob) (o := enObj st.heap.objs.size) rfl
    rw [hz] at z
    exact z
  exact ⟨⟨_, he, rfl⟩, k _ he (Heap.get?_push_of_some _ (Heap.get?_push_size _ Bg.free)) fun b o x => Heap.get?_push_of_some _ (Heap.get?_push_of_some _ x)⟩
def iEn1 (ta : TA) : TI := fun σ H R => ta σ H fun vs H1 => ∃ a xs tup, vs = [.ref a] ∧ SeqH tup H1 a xs ∧ R (Itw xs.length (fun H => SeqH tup H a xs) (PEn 0 xs)) H1
theorem pi_en1 {X : Cx} {e : Expr} {ta : TA} {p pos tpos : Pos} {elts : List Expr} {kk : Nat} (hg : Gl X "enumerate") (hm : X.mg "enumerate" = none) (ha : PA X [e] ta) (h1 : isStar e = false) :
    PI X (.Tuple elts kk tpos) (.Call (.Name "enumerate" p) [e] [] pos) (iEn1 ta) := by
  refine ⟨fun pins s σ H R I h => ?_⟩
  refine Call_ (ld_blt I hg hm boot_enumerate (PyProof.Rows.callWith_type1 (thn (ha.run pos pins s σ H _ I h) fun us s1 ⟨vs, H1, I1, r1, q1⟩ => ?_) (notStar h1) rfl))
  obtain ⟨a, xs, tup, rfl, hq, q⟩ := q1
  obtain ⟨u, rfl, ru⟩ := r1.one
  cases ru
  obtain ⟨its, rv, sa⟩ := seq_val I1 hq
  obtain ⟨o, B, sit⟩ := seq_begins tup a its.toArray
  refine en1_begins B sa fun h' he ho hk => wpAny_pyIter_enum he ?_
  have I2 : Inv X pins σ H1 { s1 with heap := h' } := I1.kept (t' := s1.toks) hk
  refine ⟨s1.heap.objs.size + 1, [s1.heap.objs.size + 1, s1.heap.objs.size], _, _, H1, rfl, I2, turn_en (Nat.succ_ne_self _), ⟨⟨.none, by simpa using he⟩, sit _ _ ho⟩, fun b hb => ?_, q⟩
  have hle : s1.heap.objs.size ≤ b := by
    rcases (by simpa using hb : b = s1.heap.objs.size + 1 ∨ b = s1.heap.objs.size) with z | z <;> (rw [z]; first | exact Nat.le_add_right _ _ | exact Nat.le_refl _)
  exact I1.fpOk hle (I1.hok.fresh hle)
end Sd

/-! Sd15: what loops walk, by the evaluator. -/
namespace Sd
open PySem PySem.Spec PyProof.Rows L2

theorem _root_.L2.PI.or {X : Cx} {tg e : Expr} {t t' : TI} (h : PI X tg e t) (h' : PI X tg e t') : PI X tg e fun σ H R => t σ H R ∨ t' σ H R :=
  ⟨fun pins s σ H R I q => q.elim (h.run pins s σ H R I) (h'.run pins s σ H R I)⟩
/-- J walks these data -/
def ItOk (y : Dy) (lv : Nat) (f : Fl) (xs : List D) (J : It) : Prop :=
  ∃ G Y, Walk J xs.length G Y ∧ (∀ H, Sub (y.G lv) H → G H) ∧ ∀ i H x H', i < xs.length → Sub (y.G lv) H → Y i H x H' → ∃ d, xs[i]? = some d ∧
    ((H' = H ∧ Rp y.sx (regm y.G lv f) d x) ∨ ∃ T vs ds, x = .ref T ∧ H T = none ∧ H' = upd H T (.tup vs) ∧ d = .tup ds ∧ Rps y.sx (regm y.G lv f) ds vs)
section
variable {X : Cx} {ct : Ct} {cl : Caller} {sg : Sig} {W : WX} {lv : Nat} {y : Dy} {c : C} {σ : L2.St} {H : Hp} {tg : Expr}
/-- a walk's item in hand -/
theorem ItOk.step {f : Fl} {y2 : Dy} {c2 : C} {σ2 : L2.St} {H2 H3 : Hp} {x : V} {d : D} (k : Gok y.G lv) (es : Pre y.sx y2.sx) (eg : Gext y.G lv y2.G) (s : SR y2 lv c2 σ2 H2)
    (h : (H3 = H2 ∧ Rp y.sx (regm y.G lv f) d x) ∨ ∃ T vs ds, x = .ref T ∧ H2 T = none ∧ H3 = upd H2 T (.tup vs) ∧ d = .tup ds ∧ Rps y.sx (regm y.G lv f) ds vs) :
    ∃ y3, Ext y2 lv y3 ∧ SR y3 lv c2 σ2 H3 ∧ Rp y3.sx (regm y3.G lv f) d x := by
  rcases h with ⟨rfl, r⟩ | ⟨T, vs, ds, rfl, hn, rfl, rfl, r⟩
  · exact ⟨y2, Ext.refl, s, Rp.mono es (regm_mono k s.g eg) _ _ r⟩
  · obtain ⟨h1, h2, h3, h4, h5⟩ := s.gnone hn
    have s3 := (s.alloc (.tup vs) hn).freeze upd_same h1 h3 h4 h5
    refine ⟨_, Ext.add h1, s3, ?_⟩
    simp only [Rp]
    refine ⟨T, vs, rfl, regm_tup (by rw [addG_top (Nat.le_refl _), upd_same]), ?_⟩
    exact Rps.mono es ((regm_mono k s.g eg).trans (regm_mono s.g (s.g.add h1) (Gext.add h1))) _ _ r
/-- what a loop walks, its reading -/
def tI (ct : Ct) (cl : Caller) (sg : Sig) (W : WX) (lv : Nat) (it : IT) : TI := fun σ H R => ∃ y c, SR y lv c σ H ∧ Post (evIt cl sg lv it c) (XW ct lv y σ W) fun fd c' =>
  ∀ y' H' J, Ext y lv y' → SR y' lv c' σ H' → ItOk y' lv fd.1 fd.2 J → R J H'
theorem itok_list {K : PySem.W.Frag} {f : Fl} {a : Addr} {xs : List D} {vs : List V} (h : y.G lv a = some (.lst vs)) (r : Rps y.sx (regm y.G lv f) xs vs) : ItOk y lv f xs (Itl K a) := by
  refine ⟨fun H => SqL K H a vs, YAt vs, by rw [← r.length]; exact walk_list, fun H s => SqL.of (s _ _ h), fun i H x H' hi s q => ?_⟩
  obtain ⟨rfl, q⟩ := q
  obtain ⟨d, h1, h2⟩ := r.get' q
  exact ⟨d, h1, .inl ⟨rfl, h2⟩⟩
theorem itok_tup {K : PySem.W.Frag} {f : Fl} {a : Addr} {xs : List D} {vs : List V} (h : y.G lv a = some (.tup vs)) (r : Rps y.sx (regm y.G lv f) xs vs) : ItOk y lv f xs (Itt K a) := by
  refine ⟨fun H => SqT K H a vs, YAt vs, by rw [← r.length]; exact walk_tup, fun H s => SqT.of (s _ _ h), fun i H x H' hi s q => ?_⟩
  obtain ⟨rfl, q⟩ := q
  obtain ⟨d, h1, h2⟩ := r.get' q
  exact ⟨d, h1, .inl ⟨rfl, h2⟩⟩
theorem itok_fn {J : It} {n : Nat} {F : Nat → Int} (w : Walk J n (fun _ => True) (YFn fun i => .int (F i))) : ItOk y lv Fl.top ((List.range n).map fun k => D.int (F k)) J := by
  refine ⟨_, _, by rw [List.length_map, List.length_range]; exact w, fun _ _ => trivial, fun i H x H' hi s q => ?_⟩
  obtain ⟨rfl, rfl⟩ := q
  have hi : i < n := by simpa using hi
  exact ⟨.int (F i), by simp [hi], .inl ⟨rfl, by simp [Rp]⟩⟩
theorem walk_w {n : Nat} {Gd : Hp → Prop} {P2 : Nat → List V → Prop} : Walk (Itw n Gd P2) n Gd (fun i H v H' => ∃ T vs, v = .ref T ∧ H T = none ∧ H' = upd H T (.tup vs) ∧ P2 i vs) :=
  ⟨fun i H hi g => ⟨g, hi⟩, fun H g => ⟨g, rfl⟩, fun i H x H' hi g q => q⟩
theorem enmD_len (k : Int) : ∀ xs : List D, (enmD k xs).length = xs.length
  | [] => rfl
  | x :: xs => by simp [enmD, enmD_len (k + 1) xs]
theorem enmD_get : ∀ (xs : List D) (k : Int) (i : Nat) (x : D), xs[i]? = some x → (enmD k xs)[i]? = some (.tup [.int (k + (i : Nat)), x])
  | [], _, _, _, h => by simp at h
  | z :: xs, k, 0, x, h => by simp at h; subst h; simp [enmD]
  | z :: xs, k, i + 1, x, h => by
    have := enmD_get xs (k + 1) i x (by simpa using h)
    simp only [enmD, List.getElem?_cons_succ, this]
    have e : k + 1 + (i : Int) = k + ((i + 1 : Nat) : Int) := by omega
    rw [e]
theorem zipD_len : ∀ xs ys : List D, (zipD xs ys).length = min xs.length ys.length
  | [], _ => by simp [zipD]
  | _ :: _, [] => by simp [zipD]
  | x :: xs, z :: ys => by simp [zipD, zipD_len xs ys]
theorem zipD_get : ∀ (xs ys : List D) (i : Nat) (x z : D), xs[i]? = some x → ys[i]? = some z → (zipD xs ys)[i]? = some (.tup [x, z])
  | [], _, _, _, _, h, _ => by simp at h
  | _ :: _, [], _, _, _, _, h => by simp at h
  | a :: xs, b :: ys, 0, x, z, h, k => by simp at h k; subst h; subst k; simp [zipD]
  | a :: xs, b :: ys, i + 1, x, z, h, k => by
    have := zipD_get xs ys i x z (by simpa using h) (by simpa using k)
    simpa [zipD] using this
theorem itok_en {f : Fl} {a : Addr} {tup : Bool} {k : Int} {xs : List D} {vs : List V} (h : y.G lv a = some (if tup then .tup vs else .lst vs)) (r : Rps y.sx (regm y.G lv f) xs vs) : ItOk y lv f (enmD k xs) (Itw vs.length (fun H => SeqH tup H a vs) (PEn k vs)) := by
  refine ⟨fun H => SeqH tup H a vs, _, by rw [enmD_len, ← r.length]; exact walk_w, fun H s => s _ _ h, fun i H x H' hi s q => ?_⟩
  obtain ⟨T, ws, rfl, hn, rfl, u, hu, rfl⟩ := q
  obtain ⟨d, h1, h2⟩ := r.get' hu
  exact ⟨_, enmD_get xs k i d h1, .inr ⟨T, _, _, rfl, hn, rfl, rfl, .cons (by simp [Rp]) (.cons h2 .nil)⟩⟩
theorem itok_zp {f : Fl} {a b : Addr} {t1 t2 : Bool} {xs zs : List D} {vs ws : List V} (h : y.G lv a = some (if t1 then .tup vs else .lst vs)) (h' : y.G lv b = some (if t2 then .tup ws else .lst ws)) (r : Rps y.sx (regm y.G lv f) xs vs) (r' : Rps y.sx (regm y.G lv f) zs ws) :
    ItOk y lv f (zipD xs zs) (Itw (min vs.length ws.length) (fun H => SeqH t1 H a vs ∧ SeqH t2 H b ws) (PZp vs ws)) := by
  refine ⟨fun H => SeqH t1 H a vs ∧ SeqH t2 H b ws, _, by rw [zipD_len, ← r.length, ← r'.length]; exact walk_w, fun H s => ⟨s _ _ h, s _ _ h'⟩, fun i H x H' hi s q => ?_⟩
  obtain ⟨T, ws, rfl, hn, rfl, u, w, hu, hw, rfl⟩ := q
  obtain ⟨d, h1, h2⟩ := r.get' hu
  obtain ⟨e, h3, h4⟩ := r'.get' hw
  exact ⟨_, zipD_get xs zs i d e h1 h3, .inr ⟨T, _, _, rfl, hn, rfl, rfl, .cons h2 (.cons h4 .nil)⟩⟩
/-- a sequence's data as they lie in the region -/
theorem seq_in {f : Fl} {d : D} {xs : List D} {v : V} (e : seqOf d = some xs) (h : Rp y.sx (regm y.G lv f) d v) : ∃ (a : Addr) (tup : Bool) (vs : List V), v = .ref a ∧ y.G lv a = some (if tup then .tup vs else .lst vs) ∧ Rps y.sx (regm y.G lv f) xs vs := by
  cases d <;> first | (simp [seqOf] at e; done) | skip
  · simp only [seqOf, Option.some.injEq] at e; subst e
    simp only [Rp] at h
    obtain ⟨a, vs, rfl, h1, h2⟩ := h
    exact ⟨a, false, vs, rfl, regm_sub _ _ h1, h2⟩
  · simp only [seqOf, Option.some.injEq] at e; subst e
    simp only [Rp] at h
    obtain ⟨a, vs, rfl, h1, h2⟩ := h
    exact ⟨a, true, vs, rfl, regm_sub _ _ h1, h2⟩

/-! ### the rules -/
theorem i_e {a : IE} {e : Expr} (ha : PE X e (tE ct cl sg W lv a)) : PI X tg e (tI ct cl sg W lv (.e a)) :=
  ((pi_list ha).or (pi_tup ha)).conseq fun σ H R ⟨y, c, s, h⟩ => by
    simp only [evIt] at h
    rw [Post.bind] at h
    cases eo : (evE cl sg lv a c).z lv with
    | stuck => rw [eo] at h; exact h.elim
    | exc ex c1 =>
      rw [eo] at h
      exact .inl (toZ s (by rw [eo]; exact h))
    | ok fd c1 =>
      rw [eo] at h
      obtain ⟨f, d⟩ := fd
      have h : Post ((ofOpt (seqOf d) c1).bind fun xs c => .ok (f, xs) c) (XW ct lv y σ W) _ := h
      rw [Post.bind, Post.ofOpt] at h
      obtain ⟨xs, hx, q⟩ := h
      cases d <;> first | (simp [seqOf] at hx; done) | skip
      · simp only [seqOf, Option.some.injEq] at hx; subst hx
        refine .inl (toZ s ?_)
        rw [eo]
        intro y1 v H1 x1 s1 r1
        simp only [Rp] at r1
        obtain ⟨b, vs, rfl, h1, h2⟩ := r1
        have hg := regm_sub _ _ h1
        exact ⟨b, rfl, ⟨vs, .of (s1.top _ _ hg)⟩, q y1 H1 _ x1 s1 (itok_list hg h2)⟩
      · simp only [seqOf, Option.some.injEq] at hx; subst hx
        refine .inr (toZ s ?_)
        rw [eo]
        intro y1 v H1 x1 s1 r1
        simp only [Rp] at r1
        obtain ⟨b, vs, rfl, h1, h2⟩ := r1
        have hg := regm_sub _ _ h1
        exact ⟨b, rfl, ⟨vs, .of (s1.top _ _ hg)⟩, q y1 H1 _ x1 s1 (itok_tup hg h2)⟩
theorem zlt : (SZ : Int) < 2 ^ 62 := by decide
theorem gds {a b x y : Int} (h : (rOk a && rOk b && dOk x y) = true) : -(SZ : Int) ≤ a ∧ a ≤ SZ ∧ -(SZ : Int) ≤ b ∧ b ≤ SZ ∧ y - x ≤ SZ := by
  rw [Bool.and_eq_true, Bool.and_eq_true, rOk_iff, rOk_iff, dOk_iff] at h
  omega
theorem rngD_1 {d : D} {xs : List D} (h : rngD [d] = some xs) : ∃ n : Int, d = .int n ∧ -(SZ : Int) ≤ n ∧ n ≤ SZ ∧ xs = (List.range n.toNat).map fun (k : Nat) => D.int (k : Int) := by
  cases d <;> first | (simp [rngD] at h; done) | skip
  simp only [rngD] at h
  split at h
  · rename_i hz; cases h; exact ⟨_, rfl, (rOk_iff.mp hz).1, (rOk_iff.mp hz).2, rfl⟩
  · cases h
theorem rngD_2 {d e : D} {xs : List D} (h : rngD [d, e] = some xs) : ∃ a b : Int, d = .int a ∧ e = .int b ∧ (-(SZ : Int) ≤ a ∧ a ≤ SZ ∧ -(SZ : Int) ≤ b ∧ b ≤ SZ ∧ b - a ≤ SZ) ∧ xs = (List.range (b - a).toNat).map fun (k : Nat) => D.int (a + (k : Int)) := by
  cases d <;> first | (simp [rngD] at h; done) | skip
  cases e <;> first | (simp [rngD] at h; done) | skip
  simp only [rngD] at h
  split at h
  · rename_i hz; cases h; exact ⟨_, _, rfl, rfl, gds hz, rfl⟩
  · cases h
theorem rngD_3 {d e g : D} {xs : List D} (h : rngD [d, e, g] = some xs) : ∃ a b : Int, d = .int a ∧ e = .int b ∧ g = .int (-1) ∧ (-(SZ : Int) ≤ a ∧ a ≤ SZ ∧ -(SZ : Int) ≤ b ∧ b ≤ SZ ∧ a - b ≤ SZ) ∧ xs = (List.range (a - b).toNat).map fun (k : Nat) => D.int (a + (k : Int) * (-1)) := by
  unfold rngD at h
  split at h <;> first | (rename_i z; cases z; done) | skip
  · rename_i a b z
    cases z
    split at h
    · rename_i hz; cases h; exact ⟨_, _, rfl, rfl, rfl, gds hz, rfl⟩
    · cases h
  · cases h
theorem i_rng1 {as : List IE} {e : Expr} {p pos : Pos} (hg : Gl X "range") (hm : X.mg "range" = none) (ha : PA X [e] (tAf ct cl sg W lv as)) (hs : isStar e = false) (hl : as.length = 1) : PI X tg (.Call (.Name "range" p) [e] [] pos) (tI ct cl sg W lv (.rng as)) :=
  (pi_range1 hg hm ha (notStar hs)).conseq fun σ H R ⟨y, c, s, h⟩ => by
    simp only [evIt] at h
    rw [Post.bind] at h
    refine ⟨y, c, s, (evF_len h).imp (fun _ _ z => z) fun fd c1 ⟨l1, q1⟩ y1 vs H1 x1 s1 r1 => ?_⟩
    obtain ⟨f, ds⟩ := fd
    rw [Post.bind, Post.ofOpt] at q1
    obtain ⟨xs, hx, q1⟩ := q1
    have zz := zlt
    match ds, l1.trans hl with
    | [d], _ =>
      obtain ⟨n, rfl, z1, z2, rfl⟩ := rngD_1 hx
      have e1 : vs = [.int n] := Rps.ints_inv (ns := [n]) r1
      subst e1
      exact ⟨n, rfl, by omega, by omega, q1 y1 H1 _ x1 s1 (itok_fn (F := fun k => (k : Int)) (walk_range.mono (fun _ h => h) fun i H x H' hi _ q => ⟨q.1, by rw [q.2]; simp⟩))⟩
theorem i_rng2 {as : List IE} {e e2 : Expr} {p pos : Pos} (hg : Gl X "range") (hm : X.mg "range" = none) (ha : PA X [e, e2] (tAf ct cl sg W lv as)) (hs : isStar e = false) (hs2 : isStar e2 = false) (hl : as.length = 2) : PI X tg (.Call (.Name "range" p) [e, e2] [] pos) (tI ct cl sg W lv (.rng as)) :=
  (pi_range2 hg hm ha (by rw [notStar hs, notStar hs2]; rfl) (by rw [notStar hs2]; rfl)).conseq fun σ H R ⟨y, c, s, h⟩ => by
    simp only [evIt] at h
    rw [Post.bind] at h
    refine ⟨y, c, s, (evF_len h).imp (fun _ _ z => z) fun fd c1 ⟨l1, q1⟩ y1 vs H1 x1 s1 r1 => ?_⟩
    obtain ⟨f, ds⟩ := fd
    rw [Post.bind, Post.ofOpt] at q1
    obtain ⟨xs, hx, q1⟩ := q1
    have zz := zlt
    match ds, l1.trans hl with
    | [d, d2], _ =>
      obtain ⟨n, m, rfl, rfl, hz, rfl⟩ := rngD_2 hx
      have e1 : vs = [.int n, .int m] := Rps.ints_inv (ns := [n, m]) r1
      subst e1
      exact ⟨n, m, rfl, ⟨by omega, by omega, by omega, by omega⟩, q1 y1 H1 _ x1 s1 (itok_fn (F := fun k => n + (k : Int)) walk_range)⟩
theorem i_rng3 {as : List IE} {e e2 e3 : Expr} {p pos : Pos} (hg : Gl X "range") (hm : X.mg "range" = none) (ha : PA X [e, e2, e3] (tAf ct cl sg W lv as)) (hs : isStar e = false) (hs2 : isStar e2 = false) (hs3 : isStar e3 = false) (hl : as.length = 3) :
    PI X tg (.Call (.Name "range" p) [e, e2, e3] [] pos) (tI ct cl sg W lv (.rng as)) :=
  (pi_range3 hg hm ha (notStar hs) (noStar (by simp [hs2, hs3]))).conseq fun σ H R ⟨y, c, s, h⟩ => by
    simp only [evIt] at h
    rw [Post.bind] at h
    refine ⟨y, c, s, (evF_len h).imp (fun _ _ z => z) fun fd c1 ⟨l1, q1⟩ y1 vs H1 x1 s1 r1 => ?_⟩
    obtain ⟨f, ds⟩ := fd
    rw [Post.bind, Post.ofOpt] at q1
    obtain ⟨xs, hx, q1⟩ := q1
    have zz := zlt
    match ds, l1.trans hl with
    | [d, d2, d3], _ =>
      obtain ⟨n, m, rfl, rfl, rfl, hz, rfl⟩ := rngD_3 hx
      have e1 : vs = [.int n, .int m, .int (-1)] := Rps.ints_inv (ns := [n, m, -1]) r1
      subst e1
      exact ⟨n, m, -1, _, rfl, RgC.neg (by omega) (by omega) (by omega) (by omega), q1 y1 H1 _ x1 s1 (itok_fn (F := fun k => n + (k : Int) * (-1)) walk_rangeC)⟩
theorem Out.bind_assoc {α β γ : Type} {o : Out α} {f : α → C → Out β} {g : β → C → Out γ} : (o.bind f).bind g = o.bind fun a c => (f a c).bind g := by
  cases o <;> rfl
theorem goZI {a : IE} {Q : VK} {β : Type} {F : Fl × D → C → Out β} {K : β → C → Prop} (s : SR y lv c σ H) (h : Post (((evE cl sg lv a c).z lv).bind F) (XW ct lv y σ W) K)
    (k : ∀ fd c' y' v H', Ext y lv y' → SR y' lv c' σ H' → Rp y'.sx (regm y'.G lv fd.1) fd.2 v → Post (F fd c') (XW ct lv y' σ W) K → Q v H') : tE ct cl sg W lv a σ H Q :=
  goZ s h fun fd c' y' v H' x s' r q => k fd c' y' v H' x s' r (q.imp (XW.ext x) fun _ _ z => z)
theorem i_enm {a k : IE} {e e2 : Expr} {p pos tpos : Pos} {elts : List Expr} {kk : Nat} (hg : Gl X "enumerate") (hm : X.mg "enumerate" = none) (ha : PE X e (tE ct cl sg W lv a)) (hk : PE X e2 (tE ct cl sg W lv k)) (hs : isStar e = false) (hs2 : isStar e2 = false) :
    PI X (.Tuple elts kk tpos) (.Call (.Name "enumerate" p) [e, e2] [] pos) (tI ct cl sg W lv (.enm a [k])) :=
  (pi_en hg hm (pa_cons ha (pa_cons hk pa_nil (notStar hs2)) (notStar hs)) hs hs2).conseq fun σ H R ⟨y, c, s, h⟩ => by
    simp only [evIt] at h
    refine goZI s h fun fd c1 y1 v H1 x1 s1 r1 q1 => ?_
    obtain ⟨f, d⟩ := fd
    simp only [evP] at q1
    rw [Out.bind_assoc] at q1
    refine goOB s1 q1 fun rk c2 y2 v2 H2 x2 s2 r2 q2 => ?_
    split at q2
    · rename_i g k0 h2
      have e2 := intV (r2.vw s2 h2)
      subst e2
      have q2 : Post (if rOk k0 = true then match seqOf d with
        | some xs => .ok (f, enmD k0 xs) c2
        | none => .stuck else .stuck) (XW ct lv y1 σ W) _ := q2
      split at q2
      · rename_i hz
        have hz : -(SZ : Int) ≤ k0 ∧ k0 ≤ SZ := rOk_iff.mp hz
        split at q2
        · rename_i xs hx
          obtain ⟨b, tup, vs, rfl, h3, h4⟩ := seq_in hx (Rp.ext x2 s1 s2 r1)
          have zz := zlt
          exact ⟨b, vs, tup, k0, rfl, s2.top _ _ h3, by omega, by omega, q2 y2 H2 _ (x1.trans x2) s2 (itok_en h3 h4)⟩
        · exact q2.elim
      · exact q2.elim
    · exact q2.elim
theorem i_enm0 {a : IE} {e : Expr} {p pos tpos : Pos} {elts : List Expr} {kk : Nat} (hg : Gl X "enumerate") (hm : X.mg "enumerate" = none) (ha : PE X e (tE ct cl sg W lv a)) (hs : isStar e = false) :
    PI X (.Tuple elts kk tpos) (.Call (.Name "enumerate" p) [e] [] pos) (tI ct cl sg W lv (.enm a [])) :=
  (pi_en1 hg hm (pa_cons ha pa_nil (notStar hs)) hs).conseq fun σ H R ⟨y, c, s, h⟩ => by
    simp only [evIt] at h
    refine goZI s h fun fd c1 y1 v H1 x1 s1 r1 q1 => ?_
    obtain ⟨f, d⟩ := fd
    simp only [evP] at q1
    have q1 : Post (match seqOf d with
        | some xs => .ok (f, enmD 0 xs) c1
        | none => .stuck) (XW ct lv y1 σ W) _ := q1
    split at q1
    · rename_i xs hx
      obtain ⟨b, tup, vs, rfl, h3, h4⟩ := seq_in hx r1
      exact ⟨b, vs, tup, rfl, s1.top _ _ h3, q1 y1 H1 _ x1 s1 (itok_en h3 h4)⟩
    · exact q1.elim
theorem i_zip {a b : IE} {e e2 : Expr} {p pos tpos : Pos} {elts : List Expr} {kk : Nat} (hg : Gl X "zip") (hm : X.mg "zip" = none) (ha : PE X e (tE ct cl sg W lv a)) (hb : PE X e2 (tE ct cl sg W lv b)) (hs : isStar e = false) (hs2 : isStar e2 = false) :
    PI X (.Tuple elts kk tpos) (.Call (.Name "zip" p) [e, e2] [] pos) (tI ct cl sg W lv (.zip a b)) :=
  (pi_zp hg hm (pa_cons ha (pa_cons hb pa_nil (notStar hs2)) (notStar hs)) hs hs2).conseq fun σ H R ⟨y, c, s, h⟩ => by
    simp only [evIt] at h
    refine goZI s h fun fd c1 y1 v H1 x1 s1 r1 q1 => ?_
    obtain ⟨f, d⟩ := fd
    refine goZI s1 q1 fun fd2 c2 y2 v2 H2 x2 s2 r2 q2 => ?_
    obtain ⟨f2, d2⟩ := fd2
    split at q2
    · rename_i xs zs hx hz
      obtain ⟨a1, t1, vs, rfl, h3, h4⟩ := seq_in hx (Rp.ext x2 s1 s2 r1)
      obtain ⟨b1, t2, ws, rfl, h5, h6⟩ := seq_in hz r2
      exact ⟨a1, b1, vs, ws, t1, t2, rfl, s2.top _ _ h3, s2.top _ _ h5, q2 y2 H2 _ (x1.trans x2) s2 (itok_zp h3 h5 (Rps.mono (Pre.refl _) (regm_join_l s2.g) _ _ h4) (Rps.mono (Pre.refl _) (regm_join_r s2.g) _ _ h6))⟩
    · exact q2.elim
theorem e_lrng3 {as : List IE} {a b c : Expr} {p p2 pos pos2 : Pos} (hc : X.calm = true) (hg : Gl X "list") (hm : X.mg "list" = none) (hg2 : Gl X "range") (hm2 : X.mg "range" = none) (ha : PA X [a, b, c] (tAf ct cl sg W lv as)) (hl : as.length = 3)
    (hs : starEach [a, b, c] X.env = (false, eval a X.env) :: starEach [b, c] X.env) (hpl : (backTo pos2 (starEach [b, c] X.env)).any (·.1) = false) :
    PE X (.Call (.Name "list" p) [.Call (.Name "range" p2) [a, b, c] [] pos2] [] pos) (tE ct cl sg W lv (.lrng as)) :=
  (pe_lst3 hc hg hm hg2 hm2 ha hs hpl).conseq fun σ H Q ⟨y, c, s, h⟩ => by
    simp only [evE] at h
    rw [Post.bind] at h
    refine ⟨y, c, s, (evF_len h).imp (fun _ _ z => z) fun fd c1 ⟨l1, q1⟩ y1 vs H1 x1 s1 r1 => ?_⟩
    obtain ⟨f, ds⟩ := fd
    rw [Post.bind, Post.ofOpt] at q1
    obtain ⟨xs, hx, q1⟩ := q1
    match ds, l1.trans hl with
    | [d, d2, d3], _ =>
      obtain ⟨n, rfl⟩ : ∃ n, d = .int n := by cases d <;> first | exact ⟨_, rfl⟩ | (simp [lrngD, rngD] at hx; done)
      obtain ⟨m, rfl⟩ : ∃ n, d2 = .int n := by cases d2 <;> first | exact ⟨_, rfl⟩ | (simp [lrngD, rngD] at hx; done)
      obtain ⟨k, rfl⟩ : ∃ n, d3 = .int n := by cases d3 <;> first | exact ⟨_, rfl⟩ | (simp [lrngD, rngD] at hx; done)
      simp only [lrngD] at hx
      split at hx
      · rename_i hz
        simp only [Bool.and_eq_true, decide_eq_true_eq] at hz
        obtain ⟨⟨⟨⟨z1, z2⟩, z3⟩, z4⟩, z5⟩ := hz
        cases hx
        have e1 : vs = [.int n, .int m, .int k] := Rps.ints_inv (ns := [n, m, k]) r1
        subst e1
        refine ⟨n, m, k, (Builtin.Range.rangeSize n m k).toNat, rfl, ⟨z1, by omega, z3, by omega, by unfold SZ at z5; omega⟩, fun q hq => ?_⟩
        have e2 : ((List.range (Builtin.Range.rangeSize n m k).toNat).map fun (t : Nat) => D.int (n + (t : Int) * k)) = ((List.range (Builtin.Range.rangeSize n m k).toNat).map fun (t : Nat) => n + (t : Int) * k).map D.int := by rw [List.map_map]; rfl
        have e3 : rg3 n k (Builtin.Range.rangeSize n m k).toNat = ((List.range (Builtin.Range.rangeSize n m k).toNat).map fun (t : Nat) => n + (t : Int) * k).map V.int := by unfold rg3; rw [List.map_map]; rfl
        obtain ⟨s3, r3⟩ := s1.newList (f := Fl.top) hq (Rps.ints (sx := y1.sx) (G := regm y1.G lv Fl.top) ((List.range (Builtin.Range.rangeSize n m k).toNat).map fun (t : Nat) => n + (t : Int) * k))
        rw [e3]
        rw [e2] at q1
        exact q1 y1 _ _ x1 s3 r3
      · cases hx
end
end Sd

/-! Sd16: targets; a state that a new list is kept beside. -/
namespace Sd
open PySem PySem.Spec PyProof.Rows L2

/-! ### targets -/
def setV (σ : L2.St) : List Nat → List V → L2.St
  | t :: ts, v :: vs => setV (σ.set t (some v)) ts vs
  | _, _ => σ
theorem setTs_len {f : Fl} : ∀ {ts : List Nat} {ds : List D} {r r' : List Slot}, setTs f ts ds r = some r' → ds.length = ts.length
  | [], [], _, _, _ => rfl
  | t :: ts, d :: ds, r, r', h => by
    simp only [setTs] at h
    simp [setTs_len h]
  | [], _ :: _, _, _, h => by simp [setTs] at h
  | _ :: _, [], _, _, h => by simp [setTs] at h
section
variable {X : Cx} {lv : Nat} {y : Dy} {H : Hp}
theorem SR.setTs {f : Fl} : ∀ {ts : List Nat} {ds : List D} {vs : List V} {c : C} {σ : L2.St} {r' : List Slot}, SR y lv c σ H → Rps y.sx (regm y.G lv f) ds vs → Sd.setTs f ts ds c.r = some r' → SR y lv { c with r := r' } (setV σ ts vs) H
  | [], [], vs, c, σ, r', s, r, h => by
    simp only [Sd.setTs, Option.some.injEq] at h
    subst h
    simp only [Rps] at r
    subst r
    exact s
  | t :: ts, d :: ds, vs, c, σ, r', s, r, h => by
    obtain ⟨v, vr, rfl, h1, h2⟩ := r.inv
    simp only [Sd.setTs] at h
    exact SR.setTs (ts := ts) (ds := ds) (c := { c with r := c.r.set t (.sh (nrm d f) d) }) (s.store h1.nrm) h2 h
  | [], _ :: _, _, _, _, _, _, _, h => by simp [Sd.setTs] at h
  | _ :: _, [], _, _, _, _, _, _, h => by simp [Sd.setTs] at h
theorem wipe_set {t : Nat} {o : Option V} : ∀ {σ : L2.St} {own : List Nat}, t ∈ own → wipe (σ.set t o) own = wipe σ own
  | σ, v :: vs, h => by
    unfold wipe
    by_cases hv : t ∈ vs
    · rw [wipe_set hv]
    · have e : t = v := by rcases List.mem_cons.mp h with e | e; exact e; exact absurd e hv
      subst e
      have out : ∀ (vs : List Nat), t ∉ vs → wipe (σ.set t o) vs = (wipe σ vs).set t o := fun vs => by
        induction vs with
        | nil => intro _; rfl
        | cons w ws ih =>
          intro hn
          unfold wipe
          rw [ih (fun z => hn (List.mem_cons_of_mem _ z)), List.set_comm _ _ (by rintro rfl; exact hn List.mem_cons_self)]
      rw [out vs hv, List.set_set]
theorem wipe_setV : ∀ {ts : List Nat} {vs : List V} {σ : L2.St} {own : List Nat}, (∀ t ∈ ts, t ∈ own) → wipe (setV σ ts vs) own = wipe σ own
  | [], _, _, _, _ => rfl
  | _ :: _, [], _, _, _ => rfl
  | t :: ts, v :: vs, σ, own, h => by
    unfold setV
    rw [wipe_setV (fun z hz => h z (List.mem_cons_of_mem _ hz)), wipe_set (h t List.mem_cons_self)]
/-- a target's reading: the data that come are stored -/
def gT (lv : Nat) (f : Fl) (ts : List Nat) (one : Bool) : TG := fun v σ H Q => ∃ y c d r', SR y lv c σ H ∧ Rp y.sx (regm y.G lv f) d v ∧ setTg f ts one d c.r = some r' ∧
  ∀ σ', SR y lv { c with r := r' } σ' H → (∀ own : List Nat, (∀ t ∈ ts, t ∈ own) → wipe σ' own = wipe σ own) → Q σ' H
/-- where targets stand -/
structure TgEnv (X : Cx) (sc : Scope) (N : List Str) : Prop where
  n : X.N = N
  nd : N.Nodup
  sto : ∀ x, isSto sc x = true → Loc X.env.scope x ∧ (X.fn x = true ∨ X.env.scope.names.lookup x = some .local)
theorem slotOf_get {N : List Str} {x : Str} {i : Nat} (h : slotOf N x = some i) : N[i]? = some x := by
  unfold slotOf at h
  obtain ⟨hi, h1, _⟩ := List.findIdx?_eq_some_iff_getElem.mp h
  rw [List.getElem?_eq_getElem hi]
  simpa using h1
theorem g_name {f : Fl} {sc : Scope} {N : List Str} {x : Str} {i : Nat} {pos : Pos} (E : TgEnv X sc N) (hs : isSto sc x = true) (hi : slotOf N x = some i) : PG X (.Name x pos) (gT lv f [i] true) := by
  obtain ⟨h1, h2⟩ := E.sto x hs
  have p : PG X (.Name x pos) (gName i) := pg_name (by rw [E.n]; exact E.nd) (by rw [E.n]; exact slotOf_get hi) h1 h2
  refine ⟨fun pins s σ H v u Q I r ⟨y, c, d, r', sr, rp, e, k⟩ => p.run pins s σ H v u Q I r ?_⟩
  simp only [setTg, if_true] at e
  have z := sr.setTs (Rps.cons rp Rps.nil) e
  exact k _ z fun own ho => wipe_setV (ts := [i]) (vs := [v]) ho
def gNs (ts : List Nat) : TGs := fun vs σ H Q => vs.length = ts.length ∧ Q (setV σ ts vs) H
theorem g_names {sc : Scope} {N : List Str} (E : TgEnv X sc N) : ∀ {es : List Expr} {ts : List Nat}, es.mapM (tgN sc N) = some ts → PGs X es (gNs ts) ∧ (assignEach es X.env).length = ts.length ∧ (assignEach es X.env).findIdx? (·.1) = none
  | [], ts, h => by
    simp only [List.mapM_nil, Option.pure_def, Option.some.injEq] at h
    subst h
    refine ⟨⟨fun pins s σ H vs us Q I r ⟨hl, q⟩ => pgs_nil.run pins s σ H vs us Q I r ?_⟩, rfl, rfl⟩
    match vs, hl with
    | [], _ => exact ⟨rfl, q⟩
  | e :: es, ts, h => by
    rw [List.mapM_cons] at h
    cases e1 : tgN sc N e with
    | none => rw [e1] at h; simp at h
    | some i =>
      cases e2 : es.mapM (tgN sc N) with
      | none => rw [e1, e2] at h; simp at h
      | some is =>
        rw [e1, e2] at h
        simp at h
        subst h
        cases e <;> first | (simp [tgN] at e1; done) | skip
        rename_i x p
        simp only [tgN] at e1
        split at e1
        · rename_i hx
          obtain ⟨h1, h2⟩ := E.sto x hx
          obtain ⟨g1, g2, g3⟩ := g_names E e2
          have p1 : PG X (.Name x p) (gName i) := pg_name (by rw [E.n]; exact E.nd) (by rw [E.n]; exact slotOf_get e1) h1 h2
          have p2 : PGs X (.Name x p :: es) (gCons (gName i) (gNs is)) := pgs_cons p1 g1
          refine ⟨⟨fun pins s σ H vs us Q I r ⟨hl, q⟩ => p2.run pins s σ H vs us Q I r ?_⟩, ?_, ?_⟩
          · match vs, hl with
            | v :: vr, hl => exact ⟨v, vr, rfl, by simpa using hl, q⟩
          · show (assignEach es X.env).length + 1 = _
            rw [g2]; rfl
          · show ((false, _) :: assignEach es X.env).findIdx? (·.1) = none
            rw [List.findIdx?_cons]
            simp [g3]
        · cases e1
theorem g_tuple {f : Fl} {sc : Scope} {N : List Str} {es : List Expr} {ts : List Nat} {k : Nat} {pos : Pos} (hc : X.calm = true) (E : TgEnv X sc N) (h : es.mapM (tgN sc N) = some ts) : PG X (.Tuple es k pos) (gT lv f ts false) := by
  obtain ⟨g1, g2, g3⟩ := g_names E h
  have pt := pg_tup (k := k) (pos := pos) hc g1 g2 g3
  have pl := pg_lst (k := k) (pos := pos) hc g1 g2 g3
  refine ⟨fun pins s σ H v u Q I r ⟨y, c, d, r', sr, rp, e, kk⟩ => ?_⟩
  simp only [setTg, Bool.false_eq_true, if_false] at e
  split at e
  · rename_i xs
    simp only [Rp] at rp
    obtain ⟨a, vs, rfl, h1, h2⟩ := rp
    have hl := setTs_len e
    have z := sr.setTs h2 e
    exact pt.run pins s σ H _ u Q I r ⟨a, vs, rfl, .of (sr.top _ _ (regm_sub _ _ h1)), by rw [h2.length, hl], by rw [h2.length, hl], kk _ z fun own ho => wipe_setV ho⟩
  · rename_i xs
    simp only [Rp] at rp
    obtain ⟨a, vs, rfl, h1, h2⟩ := rp
    have hl := setTs_len e
    have z := sr.setTs h2 e
    exact pl.run pins s σ H _ u Q I r ⟨a, vs, rfl, .of (sr.top _ _ (regm_sub _ _ h1)), by rw [h2.length, hl], by rw [h2.length, hl], kk _ z fun own ho => wipe_setV ho⟩
  · cases e
theorem g_tg {f : Fl} {sc : Scope} {N : List Str} {tg : Expr} {ts : List Nat} {one : Bool} (hc : X.calm = true) (E : TgEnv X sc N) (h : tgOf sc N tg = some (ts, one)) : PG X tg (gT lv f ts one) := by
  cases tg <;> first | (simp [tgOf] at h; done) | skip
  · rename_i x p
    simp only [tgOf] at h
    split at h
    · rename_i hx
      simp only [Option.map_eq_some_iff, Prod.mk.injEq] at h
      obtain ⟨i, hi, rfl, rfl⟩ := h
      exact g_name E hx hi
    · cases h
  · rename_i es k p
    simp only [tgOf, Option.map_eq_some_iff, Prod.mk.injEq] at h
    obtain ⟨is, hi, rfl, rfl⟩ := h
    exact g_tuple hc E hi
end

/-! ### a new list beside -/
/-- the list at A is to stay -/
abbrev Dy.beside (y : Dy) (A : Addr) (acc : List V) : Dy := { y with Z := upd y.Z A (.lst acc), B := upd y.B A (.lst []) }
section
variable {lv : Nat} {y : Dy} {c : C} {σ : L2.St} {H : Hp} {A : Addr} {acc : List V}
theorem upd_none {G : Hp} {p a : Addr} {o : HO} (h : upd G p o a = none) : G a = none ∧ a ≠ p := by
  by_cases e : a = p
  · subst e; rw [upd_same] at h; cases h
  · rw [upd_ne e] at h; exact ⟨h, e⟩
theorem SR.beside (s : SR y lv c σ H) (h : H A = none) : SR (y.beside A acc) lv c σ (upd H A (.lst acc)) := by
  obtain ⟨h1, h2, h3, h4, h5⟩ := s.gnone h
  have s' := s.alloc (.lst acc) h
  refine ⟨s.pos, fun a z => ?_, s.g, s'.top, fun a o z => ?_, fun a z => ?_, fun a o z => ?_, fun i sl hi => ?_, s.inj, ⟨s'.str.len, s'.str.at_, fun q hq => ?_, s'.str.nd⟩, s.len⟩
  · have z : upd y.Z A (.lst acc) a ≠ none := z
    show upd y.B A (.lst []) a ≠ none
    by_cases e : a = A
    · subst e; rw [upd_same]; exact fun z => by cases z
    · rw [upd_ne e] at z ⊢; exact s.zb a z
  · have z : upd y.Z A (.lst acc) a = some o := z
    by_cases e : a = A
    · subst e; rw [upd_same] at z ⊢; exact z
    · rw [upd_ne e] at z; exact s'.prot a o z
  · have z : upd y.B A (.lst []) a ≠ none := z
    by_cases e : a = A
    · subst e; rw [upd_same]; exact fun z => by cases z
    · rw [upd_ne e] at z; exact s'.old a z
  · rcases s.fresh a o z with z' | z'
    · exact .inl z'
    · by_cases e : a = A
      · subst e; have z : y.G lv a = some o := z; rw [h1] at z; cases z
      · exact .inr (by show upd y.B A (.lst []) a = none; rw [upd_ne e]; exact z')
  · cases sl with
    | un => trivial
    | sh f d => exact s'.slots i _ hi
    | ow f d =>
      obtain ⟨p, e1, o1, o2, o3, o4, o5⟩ := s'.slots i _ hi
      have e : p ≠ A := fun e => h5 i ⟨⟨f, d, hi⟩, getD_some.mp (by rw [← e]; exact e1)⟩
      exact ⟨p, e1, o1, by show upd y.Z A (.lst acc) p = none; rw [upd_ne e]; exact o2, by show upd y.B A (.lst []) p = none; rw [upd_ne e]; exact o3, o4, o5⟩
  · obtain ⟨a1, a2, a3, a4⟩ := s'.str.off q hq
    refine ⟨a1, a2, ?_, ?_⟩
    · show upd y.Z A (.lst acc) q.1 = none
      rw [upd_ne (Ne.symm (h4 q hq).1)]; exact a3
    · show upd y.Z A (.lst acc) q.2 = none
      rw [upd_ne (Ne.symm (h4 q hq).2)]; exact a4
/-- what is known of the list beside -/
theorem SR.at_beside (g0 : y.G 0 A = none) (s : SR (y.beside A acc) lv c σ H) : H A = some (.lst acc) ∧ y.G lv A = none ∧ NotStr y.sx A ∧ ∀ i, ¬ OwnAt c σ i A := by
  have hz : (y.beside A acc).Z A = some (.lst acc) := upd_same
  refine ⟨s.prot _ _ hz, ?_, fun q hq => ?_, fun i ⟨⟨f, d, hi⟩, hs⟩ => ?_⟩
  · cases e : y.G lv A with
    | none => rfl
    | some o =>
      rcases s.fresh A o e with z | z
      · have z : y.G 0 A = some o := z; rw [g0] at z; cases z
      · exact absurd rfl (upd_none z).2
  · obtain ⟨_, _, a3, a4⟩ := s.str.off q hq
    exact ⟨fun z => (upd_none a3).2 z.symm, fun z => (upd_none a4).2 z.symm⟩
  · obtain ⟨p, e1, _, o2, _⟩ := s.slots i _ hi
    rw [getD_some.mpr hs] at e1
    cases e1
    exact (upd_none o2).2 rfl
/-- it grows -/
theorem SR.regrow {acc' : List V} (g0 : y.G 0 A = none) (s : SR (y.beside A acc) lv c σ H) : SR (y.beside A acc') lv c σ (upd H A (.lst acc')) := by
  obtain ⟨b1, b2, b3, b4⟩ := s.at_beside g0
  refine ⟨s.pos, fun a z => ?_, s.g, fun a o z => ?_, fun a o z => ?_, fun a z => ?_, s.fresh, fun i sl hi => ?_, s.inj, ⟨s.str.len, fun g p t h1 h2 => ?_, fun q hq => ?_, s.str.nd⟩, s.len⟩
  · have z : upd y.Z A (.lst acc') a ≠ none := z
    by_cases e : a = A
    · subst e; exact s.zb a (by show upd y.Z a (.lst acc) a ≠ none; rw [upd_same]; exact fun z => by cases z)
    · rw [upd_ne e] at z; exact s.zb a (by show upd y.Z A (.lst acc) a ≠ none; rw [upd_ne e]; exact z)
  · have z : y.G lv a = some o := z
    have e : a ≠ A := fun e => by rw [e, b2] at z; cases z
    rw [upd_ne e]; exact s.top a o z
  · have z : upd y.Z A (.lst acc') a = some o := z
    by_cases e : a = A
    · subst e; rw [upd_same] at z ⊢; exact z
    · rw [upd_ne e] at z ⊢
      exact s.prot a o (by show upd y.Z A (.lst acc) a = _; rw [upd_ne e]; exact z)
  · by_cases e : a = A
    · subst e; rw [upd_same]; exact fun z => by cases z
    · rw [upd_ne e]; exact s.old a z
  · cases sl with
    | un => trivial
    | sh f d => exact s.slots i _ hi
    | ow f d =>
      obtain ⟨p, e1, o1, o2, o3, o4, o5⟩ := s.slots i _ hi
      have e := (upd_none o2).2
      refine ⟨p, e1, o1, by show upd y.Z A (.lst acc') p = none; rw [upd_ne e]; exact (upd_none o2).1, o3, o4, ?_⟩
      cases d <;> first | exact o5.elim | (obtain ⟨vs, h1, h2⟩ := o5; exact ⟨vs, by rw [upd_ne e]; exact h1, h2⟩)
  · have n := b3 p (List.mem_of_getElem? h1)
    rw [upd_ne (Ne.symm n.1), upd_ne (Ne.symm n.2)]
    exact s.str.at_ g p t h1 h2
  · obtain ⟨a1, a2, a3, a4⟩ := s.str.off q hq
    have n := b3 q hq
    refine ⟨a1, a2, ?_, ?_⟩
    · show upd y.Z A (.lst acc') q.1 = none
      rw [upd_ne (Ne.symm n.1)]; exact (upd_none a3).1
    · show upd y.Z A (.lst acc') q.2 = none
      rw [upd_ne (Ne.symm n.2)]; exact (upd_none a4).1
/-- it is no more beside -/
theorem SR.alone (z0 : y.Z A = none) (b0 : y.B A = none) (s : SR (y.beside A acc) lv c σ H) : SR y lv c σ H := by
  refine ⟨s.pos, fun a z => ?_, s.g, s.top, fun a o z => ?_, fun a z => ?_, fun a o z => ?_, fun i sl hi => ?_, s.inj, ⟨s.str.len, s.str.at_, fun q hq => ?_, s.str.nd⟩, s.len⟩
  · have e : a ≠ A := fun e => z (by rw [e]; exact z0)
    have q := s.zb a (by show upd y.Z A (.lst acc) a ≠ none; rw [upd_ne e]; exact z)
    have q : upd y.B A (.lst []) a ≠ none := q
    rw [upd_ne e] at q; exact q
  · have e : a ≠ A := fun e => by rw [e, z0] at z; cases z
    exact s.prot a o (by show upd y.Z A (.lst acc) a = _; rw [upd_ne e]; exact z)
  · have e : a ≠ A := fun e => z (by rw [e]; exact b0)
    exact s.old a (by show upd y.B A (.lst []) a ≠ none; rw [upd_ne e]; exact z)
  · rcases s.fresh a o z with z' | z'
    · exact .inl z'
    · exact .inr (upd_none z').1
  · cases sl with
    | un => trivial
    | sh f d => exact s.slots i _ hi
    | ow f d =>
      obtain ⟨p, e1, o1, o2, o3, o4, o5⟩ := s.slots i _ hi
      exact ⟨p, e1, o1, (upd_none o2).1, (upd_none o3).1, o4, o5⟩
  · obtain ⟨a1, a2, a3, a4⟩ := s.str.off q hq
    exact ⟨a1, a2, (upd_none a3).1, (upd_none a4).1⟩

/-! ### slots forgotten, and back -/
theorem SR.wipe {y : Dy} {c : C} {σ : L2.St} {H : Hp} (s : SR y lv c σ H) : ∀ vs : List Nat, SR y lv { c with r := wipeR c.r vs } (L2.wipe σ vs) H
  | [] => s
  | v :: vs => (SR.wipe s vs).forget none
theorem wipe_get {σ : L2.St} {j : Nat} : ∀ {vs : List Nat}, j ∉ vs → (L2.wipe σ vs)[j]? = σ[j]?
  | [], _ => rfl
  | v :: vs, h => by
    unfold L2.wipe
    rw [List.getElem?_set_ne (fun z => h (by rw [z]; exact List.mem_cons_self)), wipe_get fun z => h (List.mem_cons_of_mem _ z)]
theorem backR_len {r0 : List Slot} : ∀ {vs : List Nat} {r : List Slot}, (backR r0 r vs).length = r.length
  | [], _ => rfl
  | v :: vs, r => by
    simp only [backR]
    split <;> rw [List.length_set, backR_len]
theorem wipeR_len : ∀ {vs : List Nat} {r : List Slot}, (wipeR r vs).length = r.length
  | [], _ => rfl
  | v :: vs, r => by simp only [wipeR]; rw [List.length_set, wipeR_len]
theorem backR_get {r0 : List Slot} {j : Nat} {sl : Slot} : ∀ {vs : List Nat} {r : List Slot}, (backR r0 r vs)[j]? = some sl → (j ∉ vs ∧ r[j]? = some sl) ∨ sl = .un ∨ (∃ f d, sl = .sh f d ∧ r0[j]? = some (.sh f d))
  | [], r, h => .inl ⟨by simp, h⟩
  | v :: vs, r, h => by
    simp only [backR] at h
    have key : ∀ t : Slot, ((backR r0 r vs).set v t)[j]? = some sl → (t = .un ∨ ∃ f d, t = .sh f d ∧ r0[v]? = some (.sh f d)) → (j ∉ v :: vs ∧ r[j]? = some sl) ∨ sl = .un ∨ (∃ f d, sl = .sh f d ∧ r0[j]? = some (.sh f d)) := fun t h ht => by
      by_cases e : v = j
      · subst e
        have hl : v < (backR r0 r vs).length := by simpa using (List.getElem?_eq_some_iff.mp h).1
        rw [List.getElem?_set_self hl] at h
        cases h
        exact .inr ht
      · rw [List.getElem?_set_ne e] at h
        rcases backR_get h with ⟨h1, h2⟩ | h2
        · exact .inl ⟨fun z => by rcases List.mem_cons.mp z with z | z; exact e z.symm; exact h1 z, h2⟩
        · exact .inr h2
    split at h
    · rename_i f d e
      exact key _ h (.inr ⟨f, d, rfl, e⟩)
    · exact key _ h (.inl rfl)
theorem SR.back {y0 : Dy} {c0 : C} {H0 : Hp} {vs : List Nat} (s0 : SR y0 lv c0 σ H0) (es : Pre y0.sx y.sx) (eg : Gext y0.G lv y.G) (s : SR y lv c (L2.wipe σ vs) H) : SR y lv { c with r := backR c0.r c.r vs } σ H := by
  refine ⟨s.pos, s.zb, s.g, s.top, s.prot, s.old, s.fresh, fun i sl hi => ?_, fun i j p h1 h2 => ?_, s.str, ?_⟩
  · rcases backR_get hi with ⟨h1, h2⟩ | rfl | ⟨f, d, rfl, h2⟩
    · have q := s.slots i sl h2
      have e : (L2.wipe σ vs).getD i none = σ.getD i none := by rw [List.getD_eq_getElem?_getD, List.getD_eq_getElem?_getD, wipe_get h1]
      rw [e] at q
      exact q
    · trivial
    · obtain ⟨v, e1, e2⟩ := s0.slots i _ h2
      exact ⟨v, e1, Rp.mono es (regm_mono s0.g s.g eg) d v e2⟩
  · have out : ∀ {j : Nat}, OwnAt { c with r := backR c0.r c.r vs } σ j p → OwnAt c (L2.wipe σ vs) j p := fun {j} ⟨⟨f, d, h⟩, h'⟩ => by
      rcases backR_get h with ⟨h1, h2⟩ | z | ⟨f, d, z, _⟩
      · exact ⟨⟨f, d, h2⟩, by rw [wipe_get h1]; exact h'⟩
      · cases z
      · cases z
    exact s.inj i j p (out h1) (out h2)
  · show (backR c0.r c.r vs).length = _
    rw [backR_len, s.len, wipe_length]
end
end Sd

/-! Sd17: comprehensions. -/
namespace Sd
open PySem PySem.Spec PyProof.Rows L2
/-- no error is let out -/
abbrev W0 : WX := fun _ _ _ _ => False
theorem takes0 {X : Cx} {s : Shared} {H : Hp} {scope : Scope} {cenv : Env} {fp : List Addr} : Takes (X.blk s H scope cenv fp) W0 := fun u s' ⟨a, B, sI, pins, σ, H, cls, d, e, I, nb, up, sky, na, os, ag, w⟩ => w.elim
theorem Post.noX {α : Type} {o : Out α} {W : Exn → C → Prop} {K : α → C → Prop} (h : Post o.noX W K) : Post o (fun _ _ => False) K := by
  cases o with
  | ok a c => exact h
  | exc e c => exact h.elim
  | stuck => exact h.elim
theorem Post.any {α : Type} {o : Out α} {W : Exn → C → Prop} {K : α → C → Prop} (h : Post o (fun _ _ => False) K) : Post o W K := h.imp (fun _ _ z => z.elim) fun _ _ z => z
theorem Fl.join_assoc (a b c : Fl) : (a.join b).join c = a.join (b.join c) := by
  unfold Fl.join; rw [Nat.min_assoc, Nat.max_assoc]
section
variable {X : Cx} {ct : Ct} {cl : Caller} {sg : Sig} {W : WX} {lv : Nat}
/-- a clause's tests, their reading -/
def tCs (ct : Ct) (cl : Caller) (sg : Sig) (W : WX) (lv : Nat) (cs : List IE) : TT := fun σ H Q => ∃ y c, SR y lv c σ H ∧ Post (evCs cl sg lv cs c) (XW ct lv y σ W) fun k c' => ∀ y' H', Ext y lv y' → SR y' lv c' σ H' → Q k H'
theorem _root_.L2.PTs.conseq {X : Cx} {es : List Expr} {t t' : TT} (h : PTs X es t) (i : ∀ σ H Q, t' σ H Q → t σ H Q) : PTs X es t' := ⟨fun pins s σ H Q I hw => h.run pins s σ H Q I (i _ _ _ hw)⟩
theorem c_nil : PTs X [] (tCs ct cl sg W lv []) := pts_nil.conseq fun σ H Q ⟨y, c, s, h⟩ => by
  simp only [evCs] at h
  exact h y H Ext.refl s
theorem c_one {a : IE} {e : Expr} (ha : PT X e (tT ct cl sg W lv a)) : PTs X [e] (tCs ct cl sg W lv [a]) := (pts_one ha).conseq fun σ H Q ⟨y, c, s, h⟩ => by
  simp only [evCs] at h
  rw [Post.bind] at h
  refine ⟨y, c, s, h.imp (fun _ _ z => z) fun k c' q => ?_⟩
  cases k with
  | true => exact q
  | false => exact q
theorem drop_cons {α : Type} {xs : List α} {i : Nat} {d : α} (h : xs[i]? = some d) : xs.drop i = d :: xs.drop (i + 1) := by
  obtain ⟨hi, e⟩ := List.getElem?_eq_some_iff.mp h
  rw [List.drop_eq_getElem_cons hi, e]
theorem wipe_in {σ : L2.St} {j : Nat} : ∀ {vs : List Nat}, j ∈ vs → (L2.wipe σ vs)[j]? = if j < σ.length then some none else none
  | v :: vs, h => by
    unfold L2.wipe
    by_cases e : v = j
    · subst e
      by_cases hl : v < σ.length
      · rw [List.getElem?_set_self (by rw [wipe_length]; exact hl), if_pos hl]
      · rw [if_neg hl, List.getElem?_eq_none (by rw [List.length_set, wipe_length]; omega)]
    · rw [List.getElem?_set_ne e]
      exact wipe_in (by rcases List.mem_cons.mp h with z | z; exact absurd z.symm e; exact z)
theorem wipe_idem {σ : L2.St} {vs : List Nat} : L2.wipe (L2.wipe σ vs) vs = L2.wipe σ vs := by
  refine List.ext_getElem? fun j => ?_
  by_cases h : j ∈ vs
  · rw [wipe_in h, wipe_in h, wipe_length]
  · rw [wipe_get h]
theorem lc_read {ts : List Nat} {one : Bool} {ea : IE} {it : IT} {cs : List IE} {σ : L2.St} {H : Hp} {Q : VK} (hq : tE ct cl sg W lv (.lc ea ts one it cs) σ H Q) :
    tLc (tI ct cl sg W lv it) (fun v σ H Q => ∃ f, gT lv f ts one v σ H Q) (tCs ct cl sg W0 lv cs) (tE ct cl sg W0 lv ea) ts σ H Q := by
  obtain ⟨y, c, s, h⟩ := hq
  simp only [evE] at h
  rw [Post.bind] at h
  refine ⟨y, c, s, h.imp (fun _ _ z => z) fun fd c0 q0 y0 H1 J x0 s0 iok => ?_⟩
  obtain ⟨f, xs⟩ := fd
  dsimp only at q0 iok
  by_cases hz : xs.length ≤ SZ
  case neg => rw [if_neg hz] at q0; exact q0.elim
  rw [if_pos hz] at q0
  rw [Post.bind] at q0
  have q0 := q0.noX
  intro A hA
  obtain ⟨G, Y, w, hG, hY⟩ := iok
  obtain ⟨a1, a2, a3, a4, a5⟩ := s0.gnone hA
  have g0 : y0.G 0 A = none := (s0.g.mono 0 lv (by omega)).none a1
  generalize hone : (fun (p : Fl × D) (c : C) => (ofOpt (setTg p.1 ts one p.2 c.r) c).bind fun r c => (evCs cl sg lv cs { c with r := r }).bind fun k c => if k then ((evE cl sg lv ea c).z lv).bind fun fd c => .ok (some fd) c else (.ok none c : Out (Option (Fl × D)))) = one' at q0
  refine lc_it (g := fun v σ H Q => ∃ f, gT lv f ts one v σ H Q) (tt := tCs ct cl sg W0 lv cs) (te := tE ct cl sg W0 lv ea) (vs := ts) (σ := σ) (H1 := H1) (D := A) (Qd := fun H => Q (.ref A) H) w (Pv := fun i Hc => ∃ (y' : Dy) (c' : C) (acc : List V) (ads : List D) (J0 : Fl → Fl), i ≤ xs.length ∧ y'.Z = y0.Z ∧ y'.B = y0.B ∧ Pre y0.sx y'.sx ∧ Gext y0.G lv y'.G ∧ SR (y'.beside A acc) lv { c' with r := wipeR c'.r ts } (L2.wipe σ ts) Hc ∧
      acc.length ≤ i ∧ (∀ g, Rps y'.sx (regm y'.G lv (J0 g)) ads acc) ∧ (∀ (G : Nat → Hp) g, Gok G lv → Sub (regm G lv g) (regm G lv (J0 g))) ∧
      Post (lcGo ts one' f (xs.drop i) c') (fun _ _ => False) fun gd c2 => ∀ y' v H', Ext y lv y' → SR y' lv { c2 with r := backR c0.r (wipeR c2.r ts) ts } σ H' → RelR y' lv { c2 with r := backR c0.r (wipeR c2.r ts) ts } σ H' (.new (J0 gd.1) (.lst (ads ++ gd.2))) v → Q v H') ?_ ?_ ?_ ?_
  · exact ⟨y0, c0, [], [], id, Nat.zero_le _, rfl, rfl, Pre.refl _, Gext.refl, (s0.wipe ts).beside hA, Nat.le_refl _, fun _ => Rps.nil, fun _ _ _ => Sub.refl _, q0⟩
  · rintro i Hc hi ⟨y', c', acc, ads, J0, h1, h2, h3, h4, h5, h6, h7, h8, h8', h9⟩
    exact hG _ ((Gext.up h5).trans h6.top)
  · rintro i x Hc H' hi ⟨y', c', acc, ads, J0, h1, h2, h3, h4, h5, h6, h7, h8, h8', h9⟩ hy
    obtain ⟨d, hd, item⟩ := hY i Hc x H' hi ((Gext.up h5).trans h6.top) hy
    obtain ⟨y3, x3, s3, r3⟩ := ItOk.step (y := y0) (y2 := y'.beside A acc) s0.g h4 h5 h6 item
    rw [drop_cons hd] at h9
    simp only [lcGo] at h9
    rw [Post.bind] at h9
    have e9 : one' (f, d) { c' with r := wipeR c'.r ts } = (ofOpt (setTg f ts one d (wipeR c'.r ts)) { c' with r := wipeR c'.r ts }).bind fun r c => (evCs cl sg lv cs { c with r := r }).bind fun k c => if k then ((evE cl sg lv ea c).z lv).bind fun fd c => .ok (some fd) c else .ok none c := by rw [← hone]
    rw [e9, Post.bind, Post.ofOpt] at h9
    obtain ⟨r', hr', h9⟩ := h9
    have hidem : L2.wipe (L2.wipe σ ts) ts = L2.wipe σ ts := wipe_idem
    refine ⟨f, y3, _, d, r', s3, r3, hr', fun σ' s4 hw => ?_⟩
    have hw1 : L2.wipe σ' ts = L2.wipe σ ts := (hw ts fun _ h => h).trans hidem
    refine ⟨hw1, ?_⟩
    rw [Post.bind] at h9
    refine ⟨y3, _, s4, h9.any.imp (fun _ _ z => z) fun k c5 q5 y5 H5 x5 s5 => ?_⟩
    -- the state at the turn's end
    have fin : ∀ (y6 : Dy) (c6 : C) (acc' : List V) (ads' : List D) (J1 : Fl → Fl) (H6 H7 : Hp), Ext y3 lv y6 → SR y6 lv c6 σ' H6 → acc'.length ≤ i + 1 → (acc' = acc ∧ H7 = H6 ∨ H7 = upd H6 A (.lst acc')) → (∀ g, Rps y6.sx (regm y6.G lv (J1 g)) ads' acc') → (∀ (G : Nat → Hp) g, Gok G lv → Sub (regm G lv g) (regm G lv (J1 g))) →
        Post (lcGo ts one' f (xs.drop (i + 1)) c6) (fun _ _ => False) (fun gd c2 => ∀ y' v H', Ext y lv y' → SR y' lv { c2 with r := backR c0.r (wipeR c2.r ts) ts } σ H' → RelR y' lv { c2 with r := backR c0.r (wipeR c2.r ts) ts } σ H' (.new (J1 gd.1) (.lst (ads' ++ gd.2))) v → Q v H') →
        ∃ (y' : Dy) (c' : C) (acc : List V) (ads : List D) (J0 : Fl → Fl), i + 1 ≤ xs.length ∧ y'.Z = y0.Z ∧ y'.B = y0.B ∧ Pre y0.sx y'.sx ∧ Gext y0.G lv y'.G ∧ SR (y'.beside A acc) lv { c' with r := wipeR c'.r ts } (L2.wipe σ ts) H7 ∧
          acc.length ≤ i + 1 ∧ (∀ g, Rps y'.sx (regm y'.G lv (J0 g)) ads acc) ∧ (∀ (G : Nat → Hp) g, Gok G lv → Sub (regm G lv g) (regm G lv (J0 g))) ∧
          Post (lcGo ts one' f (xs.drop (i + 1)) c') (fun _ _ => False) fun gd c2 => ∀ y' v H', Ext y lv y' → SR y' lv { c2 with r := backR c0.r (wipeR c2.r ts) ts } σ H' → RelR y' lv { c2 with r := backR c0.r (wipeR c2.r ts) ts } σ H' (.new (J0 gd.1) (.lst (ads ++ gd.2))) v → Q v H' :=
      fun y6 c6 acc' ads' J1 H6 H7 x6 s6 hl hH rp up ps => by
        have x36 := x3.trans x6
        have g06 : y6.G 0 A = none := by
          have := x36.g.low 0 (by have := s0.pos; omega)
          rw [this]
          have z := h5.low 0 (by have := s0.pos; omega)
          show y'.G 0 A = none
          rw [z]; exact g0
        have e6 : y6 = ({ y6 with Z := y0.Z, B := y0.B } : Dy).beside A acc := by
          have ez : y6.Z = upd y0.Z A (.lst acc) := by rw [x36.z, ← h2]
          have eb : y6.B = upd y0.B A (.lst []) := by rw [x36.b, ← h3]
          show y6 = ({ y6 with Z := upd y0.Z A (.lst acc), B := upd y0.B A (.lst []) } : Dy)
          rw [← ez, ← eb]
        have w6 := s6.wipe ts
        rw [hw1, e6] at w6
        refine ⟨{ y6 with Z := y0.Z, B := y0.B }, c6, acc', ads', J1, hi, rfl, rfl, h4.trans x36.s, h5.trans x36.g, ?_, hl, rp, up, ps⟩
        rcases hH with ⟨rfl, rfl⟩ | rfl
        · exact w6
        · exact w6.regrow g06
    cases k with
    | false =>
      simp only [Bool.false_eq_true, if_false] at q5 ⊢
      have q5 : Post ((lcGo ts one' f (xs.drop (i + 1)) c5).bind fun (g, ds) c => .ok (g, ds) c) (fun _ _ => False) _ := q5
      rw [Post.bind] at q5
      exact fin y5 c5 acc ads J0 H5 H5 x5 s5 (Nat.le_succ_of_le h7) (.inl ⟨rfl, rfl⟩) (fun g => Rps.mono (x3.trans x5).s (regm_mono h6.g s5.g (x3.trans x5).g) _ _ (h8 g)) h8' q5
    | true =>
      simp only [if_true] at q5 ⊢
      rw [Post.bind] at q5
      refine toZ s5 (q5.any.imp (fun _ _ z => z) fun fd c7 q7 y7 v H7 x7 s7 r7 => ?_)
      obtain ⟨fe, de⟩ := fd
      have q7 : Post ((lcGo ts one' f (xs.drop (i + 1)) c7).bind fun (g, ds) c => .ok ((nrm de fe).join g, de :: ds) c) (fun _ _ => False) _ := q7
      rw [Post.bind] at q7
      have x57 := x5.trans x7
      have hH : H7 A = some (.lst acc) := s7.prot A _ (by rw [(x3.trans x57).z]; exact upd_same)
      have hSZ := SZ_eq
      refine ⟨acc, hH, by omega, fin y7 c7 (acc ++ [v]) (ads ++ [de]) (fun g => J0 ((nrm de fe).join g)) H7 _ x57 s7 (by simp; omega) (.inr rfl) (fun g => ?_) (fun G g k => (regm_join_r k).trans (h8' G _ k)) ?_⟩
      · refine (Rps.mono (x3.trans x57).s (regm_mono h6.g s7.g (x3.trans x57).g) _ _ (h8 _)).append (.cons ?_ .nil)
        exact Rp.mono (Pre.refl _) ((regm_join_l s7.g).trans (h8' _ _ s7.g)) _ _ r7.nrm
      · refine q7.imp (fun _ _ z => z) fun gd c8 z => ?_
        have z : ∀ y' v H', Ext y lv y' → SR y' lv { c8 with r := backR c0.r (wipeR c8.r ts) ts } σ H' → RelR y' lv { c8 with r := backR c0.r (wipeR c8.r ts) ts } σ H' (.new (J0 ((nrm de fe).join gd.1)) (.lst (ads ++ de :: gd.2))) v → Q v H' := z
        rw [List.append_assoc]
        exact z
  · rintro Hc ⟨y', c', acc, ads, J0, h1, h2, h3, h4, h5, h6, h7, h8, h8', h9⟩
    rw [List.drop_length] at h9
    have h9 : ∀ y' v H', Ext y lv y' → SR y' lv { c' with r := backR c0.r (wipeR c'.r ts) ts } σ H' → RelR y' lv { c' with r := backR c0.r (wipeR c'.r ts) ts } σ H' (.new (J0 Fl.top) (.lst (ads ++ []))) v → Q v H' := h9
    rw [List.append_nil] at h9
    have g06 : y'.G 0 A = none := by
      rw [h5.low 0 (by have := s0.pos; omega)]; exact g0
    obtain ⟨b1, b2, b3, b4⟩ := h6.at_beside g06
    have s1 := h6.alone (by rw [h2]; exact a2) (by rw [h3]; exact a3)
    have s2 := SR.back (vs := ts) (c := { c' with r := wipeR c'.r ts }) s0 h4 h5 s1
    refine h9 y' _ Hc (x0.trans ⟨h2, h3, h5, h4⟩) s2 ⟨A, rfl, ⟨b2, by rw [h2]; exact a2, by rw [h3]; exact a3, b3, acc, b1, h8 _⟩, fun i ⟨⟨f, d, hi⟩, hs⟩ => ?_⟩
    rcases backR_get hi with ⟨z1, z2⟩ | z | ⟨_, _, z, _⟩
    · exact b4 i ⟨⟨f, d, z2⟩, by rw [wipe_get z1]; exact hs⟩
    · cases z
    · cases z
/-- what the parts of a comprehension are -/
structure LcOk (X : Cx) (ct : Ct) (cl : Caller) (sg : Sig) (W : WX) (lv : Nat) (e tg iter : Expr) (ifs : List Expr) (bs : Scope) (ts : List Nat) (one : Bool) (ea : IE) (it : IT) (cs : List IE) (own : List (Str × Nat)) : Prop where
  how : own.map (·.2) = ts
  calm : X.calm = true
  nd : X.N.Nodup
  hi : PI X tg iter (tI ct cl sg W lv it)
  ok : BlkOk X.N X.env.scope bs own
  hg : ∀ (f : Fl) (s : Shared) (H : Hp) (C : Addr) (cl : List (Str × Addr)) (fp : List Addr), PG (X.blk s H bs (compEnvC bs cl C X.env) fp) tg (gT lv f ts one)
  ht : ∀ (s : Shared) (H : Hp) (C : Addr) (cl' : List (Str × Addr)) (fp : List Addr), PTs (X.blk s H bs (compEnvC bs cl' C X.env) fp) ifs (tCs ct cl sg W0 lv cs)
  he : ∀ (s : Shared) (H : Hp) (C : Addr) (cl' : List (Str × Addr)) (fp : List Addr), PE (X.blk s H bs (compEnvC bs cl' C X.env) fp) e (tE ct cl sg W0 lv ea)
  hs : ∀ x, foldedSetIterable iter X.env x = pure x
section
variable {e tg iter : Expr} {ifs : List Expr} {bs : Scope} {ts : List Nat} {one : Bool} {pos : Pos} {ea : IE} {it : IT} {cs : List IE} {own : List (Str × Nat)}
theorem LcOk.hg' (L : LcOk X ct cl sg W lv e tg iter ifs bs ts one ea it cs own) (s : Shared) (H : Hp) (C : Addr) (cl : List (Str × Addr)) (fp : List Addr) : PG (X.blk s H bs (compEnvC bs cl C X.env) fp) tg (fun v σ H Q => ∃ f, gT lv f ts one v σ H Q) :=
  ⟨fun pins s1 σ H1 v u Q I r ⟨f, q⟩ => (L.hg f s H C cl fp).run pins s1 σ H1 v u Q I r q⟩
theorem e_lc (L : LcOk X ct cl sg W lv e tg iter ifs bs ts one ea it cs own) : PE X (.ListComp e [⟨tg, iter, ifs, 0⟩] bs pos) (tE ct cl sg W lv (.lc ea ts one it cs)) :=
  (pe_lc L.calm L.nd L.hi L.ok L.hg' L.ht L.he L.hs).conseq fun σ H Q h => by
    rw [L.how]
    exact lc_read h
theorem s_setLc {i : Nat} {x : Str} {px spos : Pos} (L : LcOk X ct cl sg W lv e tg iter ifs bs ts one ea it cs own) (hy : X.N[i]? = some x) (hl : X.env.scope.names.lookup x = some .local) (hsw : swapsWith (.ListComp e [⟨tg, iter, ifs, 0⟩] bs pos) (some (.Name x px)) spos.line X.env = pure true) :
    PS X (.Assign [.Name x px] (.ListComp e [⟨tg, iter, ifs, 0⟩] bs pos) spos) (tAsg (tE ct cl sg W lv (.lc ea ts one it cs)) (gName i)) :=
  (ps_setLc L.calm L.nd hy hl hsw L.hi L.ok L.hg' L.ht L.he L.hs).conseq fun D σ H h => by
    have h : tE ct cl sg W lv (.lc ea ts one it cs) σ H fun x H1 => gName i x σ H1 D.nx := h
    show tLc _ _ _ _ _ σ H fun x H1 => gName i x σ H1 D.nx
    rw [L.how]
    exact lc_read h
end
end
end Sd

/-! Sd18: every expression that is served. -/
namespace Sd
open PySem PySem.Spec PyProof.Rows L2
def bnames : List Str := ["abs", "len", "list", "tuple", "sum", "max", "min", "all", "any", "sorted", "int", "repr", "dict", "bool", "str", "isinstance", "range", "zip", "enumerate"]
/-- what is known of a def's (a block's) context -/
structure EnvOk (X : Cx) (us : List Str) (a : Ann) (ct : Ct) (cl : Caller) (sg : Sig) (k : Nat) : Prop where
  n : X.N = a.N
  nd : a.N.Nodup
  calm : X.calm = true
  room : RoomG k X.A
  blt : ∀ x ∈ bnames, X.mg x = none
  cals : ∀ x ∈ us, Cal X ct cl sg k x
  nodbg : ("__debug__" : Str) ∉ us
section
variable {us : List Str} {a : Ann} {ct : Ct} {cl : Caller} {sg : Sig} {k : Nat} {X : Cx} {W : WX} {lv : Nat} {sc : Scope}
theorem EnvOk.blk (E : EnvOk X us a ct cl sg k) {s : Shared} {H : Hp} {scope : Scope} {cenv : Env} {fp : List Addr} : EnvOk (X.blk s H scope cenv fp) us a ct cl sg k :=
  ⟨E.n, E.nd, E.calm, E.room, E.blt, fun x hx => ⟨(E.cals x hx).ex⟩, E.nodbg⟩
theorem gl_of (hs : X.env.scope = sc) {x : Str} (h : isGlb sc x = true) : Gl X x := by
  unfold isGlb at h
  show X.env.scope.names.lookup x = _
  rw [hs]
  split at h
  · assumption
  · cases h
theorem vis_of (hs : X.env.scope = sc) {x : Str} (h : isLoc sc x = true) : Vis X.env.scope x ∧ (x == ("__debug__" : Str)) = false ∧ (x == ("__classdict__" : Str)) = false := by
  unfold isLoc at h
  simp only [Bool.and_eq_true, Bool.not_eq_true', decide_eq_false_iff_not] at h
  obtain ⟨⟨h1, h2⟩, h3⟩ := h
  refine ⟨?_, by rw [beq_eq_false_iff_ne]; exact h1, by rw [beq_eq_false_iff_ne]; exact h2⟩
  rw [hs]
  unfold Vis
  split at h3 <;> first | (exact .inl (by assumption)) | (exact .inr (.inl (by assumption))) | (exact .inr (.inr (by assumption))) | cases h3
theorem isSto_loc {x : Str} (h : isSto sc x = true) : L2.Loc sc x := by
  unfold isSto at h
  unfold L2.Loc
  split at h <;> first | exact .inl (by assumption) | exact .inr (by assumption) | cases h
theorem isSto_vis {x : Str} (h : isSto sc x = true) : L2.Vis sc x := by
  rcases isSto_loc h with h | h
  · exact .inl h
  · exact .inr (.inl h)
theorem tgEnv_blk (E : EnvOk X us a ct cl sg k) (hs : X.env.scope = sc) {s : Shared} {H : Hp} {bs : Scope} {C : Addr} {cl' : List (Str × Addr)} {fp : List Addr} : TgEnv (X.blk s H bs (compEnvC bs cl' C X.env) fp) bs a.N := by
  refine ⟨E.n, E.nd, fun x hx => ?_⟩
  have h1 := isSto_loc hx
  have kp : ∀ kd : NameKind, kd ≠ .free → bs.names.lookup x = some kd → (relS bs X.env.scope).names.lookup x = some kd := fun kd hk h => lookup_relS_keep hk h
  rcases h1 with h1 | h1
  · exact ⟨.inl (kp _ (by decide) h1), .inr (kp _ (by decide) h1)⟩
  · exact ⟨.inr (kp _ (by decide) h1), .inl (by show (bs.names.lookup x == some .cell) = true; rw [h1]; rfl)⟩
theorem op2Of_eq {op : Operator} {o : Op2} (h : op2Of op = some o) : op = opE o := by
  cases op <;> simp [op2Of] at h <;> subst h <;> rfl
theorem cmOf_eq {op : CmpOp} {o : Cm} (h : cmOf op = some o) : op = cmE o := by
  cases op <;> simp [cmOf] at h <;> subst h <;> rfl
theorem ite_some {p : Prop} [Decidable p] {α : Type} {a b : α} {o : Option α} (h : (if p then some a else o) = some b) : (p ∧ a = b) ∨ o = some b := by
  by_cases hp : p
  · rw [if_pos hp] at h; cases h; exact .inl ⟨hp, rfl⟩
  · rw [if_neg hp] at h; exact .inr h
theorem btOf_eq {x : Str} {n : Nat} {b : Bt} (h : btOf x n = some b) : x = btN b := by
  unfold btOf at h
  by_cases h1 : n = 1
  · rw [if_pos h1] at h
    iterate 13 (rcases ite_some h with ⟨e, rfl⟩ | h; · exact e)
    cases h
  · rw [if_neg h1] at h
    by_cases h2 : n = 2
    · rw [if_pos h2] at h
      iterate 2 (rcases ite_some h with ⟨e, rfl⟩ | h; · exact e)
      cases h
    · rw [if_neg h2] at h; cases h
theorem btN_mem : ∀ b : Bt, btN b ∈ bnames := by intro b; cases b <;> decide
theorem tyS_mem : ∀ t : Ty, PySem.Str.ofString (tyS t) ∈ bnames := by intro t; cases t <;> decide
/-- what is not served -/
theorem e_never {e : Expr} : PE X e (tE ct cl sg W lv .never) := pe_never.conseq fun σ H Q ⟨y, c, s, h⟩ => by
  simp only [evE] at h
  exact h
theorem t_never {e : Expr} : PT X e (tT ct cl sg W lv .never) := ⟨fun pins s σ H Q I ⟨y, c, sr, h⟩ => by
  simp only [evE] at h
  exact h.elim⟩
theorem w_never {e : Expr} : PW X e (tT ct cl sg W lv .never) := ⟨fun wh pins s σ H Q I ⟨y, c, sr, h⟩ => by
  simp only [evE] at h
  exact h.elim⟩
theorem i_never {tg e : Expr} : PI X tg e (tI ct cl sg W lv (.e .never)) := ⟨fun pins s σ H R I ⟨y, c, sr, h⟩ => by
  simp only [evIt, evE] at h
  exact h.elim⟩
theorem w_one {op : BoolOp} {e : Expr} {pos : Pos} {t : TT} (h : PT X e t) : PW X (.BoolOp op [e] pos) t := by
  cases op
  · exact pw_and1 h
  · exact pw_or1 h
/-- an expression, as a value and as a test -/
structure Ser (X : Cx) (ct : Ct) (cl : Caller) (sg : Sig) (W : WX) (lv : Nat) (e : Expr) (i : IE) : Prop where
  pe : PE X e (tE ct cl sg W lv i)
  pt : PT X e (tT ct cl sg W lv i)
  pw : ∀ op es pos, e = .BoolOp op es pos → PW X e (tT ct cl sg W lv i)
theorem Ser.never {e : Expr} : Ser X ct cl sg W lv e .never := ⟨e_never, t_never, fun _ _ _ _ => w_never⟩
theorem Ser.val {e : Expr} {i : IE} (h : PE X e (tE ct cl sg W lv i)) (he : ∀ whole, isTrue e X.env whole = (do let v ← whole; standAt e.pos; holding [v] (truthy v))) (hb : ∀ op es pos, e ≠ .BoolOp op es pos) : Ser X ct cl sg W lv e i :=
  ⟨h, t_val h he, fun op es pos z => absurd z (hb op es pos)⟩
theorem a_mapO {f : Expr → IE} : ∀ {es : List Expr}, (∀ e, PE X e (tE ct cl sg W lv (f e))) → es.any isStar = false → PA X es (tAo ct cl sg W lv (es.map f))
  | [], _, _ => a_nilO
  | e :: es, h, hs => by
    have h1 : isStar e = false ∧ es.any isStar = false := by simpa using hs
    exact a_consO (h e) (a_mapO h h1.2) h1.1
theorem a_mapF {f : Expr → IE} : ∀ {es : List Expr}, (∀ e, PE X e (tE ct cl sg W lv (f e))) → es.any isStar = false → PA X es (tAf ct cl sg W lv (es.map f))
  | [], _, _ => a_nilF
  | e :: es, h, hs => by
    have h1 : isStar e = false ∧ es.any isStar = false := by simpa using hs
    exact a_consF (h e) (a_mapF h h1.2) h1.1
theorem k_map {f : Expr → IE} (h : ∀ e, PE X e (tE ct cl sg W lv (f e))) : ∀ {ks : List Keyword}, PK X ks (tAo ct cl sg W lv (ks.map fun k => f k.value))
  | [] => k_nil
  | ⟨nm, v, p⟩ :: ks => k_cons (h v) (k_map h)
theorem a_neverS {as : List IE} {es : List Expr} : PA X es (tAs ct cl sg W lv (.never :: as)) := ⟨fun pos pins s σ H Q I ⟨y, c, sr, h⟩ => by
  simp only [evS, evE] at h
  exact h.elim⟩
theorem cE_star : ∀ n sc e b, cE us a n sc e ≠ .star b
  | 0, sc, e, b => by simp [cE]
  | n + 1, sc, e, b => by
    intro h
    unfold cE at h
    repeat' split at h
    all_goals first | exact IE.noConfusion h | exact cE_star n _ _ _ h
theorem a_mapS {n : Nat} (h : ∀ m e, m < n → PE X e (tE ct cl sg W lv (cE us a m sc e))) : ∀ {es : List Expr}, PA X es (tAs ct cl sg W lv (es.map (cX us a n sc)))
  | [] => a_nilS
  | e :: es => by
    cases n with
    | zero =>
      show PA X (e :: es) (tAs ct cl sg W lv (cX us a 0 sc e :: es.map (cX us a 0 sc)))
      rw [show cX us a 0 sc e = .never by simp [cX]]
      exact a_neverS
    | succ n =>
      have ih := a_mapS h (es := es)
      show PA X (e :: es) (tAs ct cl sg W lv (cX us a (n + 1) sc e :: es.map (cX us a (n + 1) sc)))
      by_cases hs : isStar e = true
      · cases e <;> first | (simp [isStar] at hs; done) | skip
        rename_i x p
        simp only [cX]
        exact a_starS (h n x (Nat.lt_succ_self _)) ih
      · have hs : isStar e = false := by simpa using hs
        have ec : cX us a (n + 1) sc e = cE us a n sc e := by
          cases e <;> first | (simp [isStar] at hs; done) | simp only [cX]
        rw [ec]
        exact a_consS (cE_star n sc e) (h n e (Nat.lt_succ_self _)) ih hs
end
end Sd

/-! Sd19: every expression that is served, by induction. -/
namespace Sd
open PySem PySem.Spec PyProof.Rows L2
theorem tg_tup {sc : Scope} {N : List Str} {tg : Expr} {ts : List Nat} {one : Bool} (h : tgOf sc N tg = some (ts, one)) : (!one) = true → ∃ es j q, tg = .Tuple es j q := by
  intro ho
  cases tg <;> first | (simp [tgOf] at h; done) | skip
  · simp only [tgOf] at h
    split at h
    · simp only [Option.map_eq_some_iff, Prod.mk.injEq] at h
      obtain ⟨i, _, _, rfl⟩ := h
      simp at ho
    · cases h
  · exact ⟨_, _, _, rfl⟩
section
variable {us : List Str} {a : Ann} {ct : Ct} {cl : Caller} {sg : Sig} {k : Nat}
def Good (us : List Str) (a : Ann) (ct : Ct) (cl : Caller) (sg : Sig) (k n : Nat) : Prop :=
  ∀ (X : Cx) (W : WX) (lv : Nat) (sc : Scope) (e : Expr), EnvOk X us a ct cl sg k → X.env.scope = sc → Takes X W → Ser X ct cl sg W lv e (cE us a n sc e)
section
variable {X : Cx} {W : WX} {lv : Nat} {sc : Scope} {n : Nat} (E : EnvOk X us a ct cl sg k) (hs : X.env.scope = sc) (tk : Takes X W) (ih : ∀ m, m < n + 1 → Good us a ct cl sg k m)
include E hs tk ih
theorem g_pe (e : Expr) : PE X e (tE ct cl sg W lv (cE us a n sc e)) := (ih n (Nat.lt_succ_self _) X W lv sc e E hs tk).pe
theorem g_pt (e : Expr) : PT X e (tT ct cl sg W lv (cE us a n sc e)) := (ih n (Nat.lt_succ_self _) X W lv sc e E hs tk).pt
theorem g_O (es : List Expr) (h : es.any isStar = false) : PA X es (tAo ct cl sg W lv (es.map (cE us a n sc))) := a_mapO (g_pe E hs tk ih) h
theorem g_F (es : List Expr) (h : es.any isStar = false) : PA X es (tAf ct cl sg W lv (es.map (cE us a n sc))) := a_mapF (g_pe E hs tk ih) h
theorem g_S (es : List Expr) : PA X es (tAs ct cl sg W lv (es.map (cX us a n sc))) := a_mapS fun m e hm => (ih m (by omega) X W lv sc e E hs tk).pe
theorem g_K (ks : List Keyword) : PK X ks (tAo ct cl sg W lv (ks.map fun k => cE us a n sc k.value)) := k_map (g_pe E hs tk ih)
theorem s_const (c : Const) (j : Nat) (p : Pos) : Ser X ct cl sg W lv (.Constant c j p) (cE us a (n + 1) sc (.Constant c j p)) := by
  simp only [cE]
  split
  · exact .val e_non (fun _ => rfl) (fun _ _ _ z => by cases z)
  · exact .val e_bl (fun _ => rfl) (fun _ _ _ z => by cases z)
  · exact .val e_int (fun _ => rfl) (fun _ _ _ z => by cases z)
  · exact .val e_str (fun _ => rfl) (fun _ _ _ z => by cases z)
  · exact .never
theorem s_name (x : Str) (p : Pos) : Ser X ct cl sg W lv (.Name x p) (cE us a (n + 1) sc (.Name x p)) := by
  simp only [cE]
  split
  · rename_i h
    split
    · rename_i i hi
      obtain ⟨v, d1, d2⟩ := vis_of hs h
      exact .val (e_var (by rw [E.n]; exact slotOf_get hi) v d1 d2) (fun _ => rfl) (fun _ _ _ z => by cases z)
    · exact .never
  · exact .never
theorem s_bin (l : Expr) (op : Operator) (r : Expr) (p : Pos) : Ser X ct cl sg W lv (.BinOp l op r p) (cE us a (n + 1) sc (.BinOp l op r p)) := by
  simp only [cE]
  split
  · rename_i o ho
    rw [op2Of_eq ho]
    exact .val (e_op2 (g_pe E hs tk ih l) (g_pe E hs tk ih r)) (fun _ => rfl) (fun _ _ _ z => by cases z)
  · exact .never
theorem s_un (op : UnaryOp) (x : Expr) (p : Pos) : Ser X ct cl sg W lv (.UnaryOp op x p) (cE us a (n + 1) sc (.UnaryOp op x p)) := by
  cases op <;> simp only [cE]
  case USub => exact .val (e_neg (g_pe E hs tk ih x)) (fun _ => rfl) (fun _ _ _ z => by cases z)
  case Not => exact ⟨e_not (g_pe E hs tk ih x), t_not (g_pt E hs tk ih x), fun _ _ _ z => by cases z⟩
  all_goals exact .never
theorem s_bool (op : BoolOp) (es : List Expr) (p : Pos) : Ser X ct cl sg W lv (.BoolOp op es p) (cE us a (n + 1) sc (.BoolOp op es p)) := by
  cases es with
  | nil => cases op <;> (simp only [cE]; exact .never)
  | cons x es =>
    cases es with
    | nil =>
      have e1 : cE us a (n + 1) sc (.BoolOp op [x] p) = cE us a n sc x := by cases op <;> simp only [cE]
      rw [e1]
      have w : PW X (.BoolOp op [x] p) (tT ct cl sg W lv (cE us a n sc x)) := w_one (g_pt E hs tk ih x)
      exact ⟨e_and1 (g_pe E hs tk ih x), w.pt, fun op' es' p' z => w⟩
    | cons y es =>
      have s2 := ih n (Nat.lt_succ_self _) X W lv sc (.BoolOp op (y :: es) p) E hs tk
      cases op with
      | And =>
        have e1 : cE us a (n + 1) sc (.BoolOp .And (x :: y :: es) p) = .and (cE us a n sc x) (cE us a n sc (.BoolOp .And (y :: es) p)) := by simp only [cE]
        rw [e1]
        have w := t_and (pos := p) (g_pt E hs tk ih x) (s2.pw _ _ _ rfl)
        exact ⟨e_and (g_pe E hs tk ih x) s2.pe, w.pt, fun op' es' p' z => w⟩
      | Or =>
        have e1 : cE us a (n + 1) sc (.BoolOp .Or (x :: y :: es) p) = .or (cE us a n sc x) (cE us a n sc (.BoolOp .Or (y :: es) p)) := by simp only [cE]
        rw [e1]
        have w := t_or (pos := p) (g_pt E hs tk ih x) (s2.pw _ _ _ rfl)
        exact ⟨e_or (g_pe E hs tk ih x) s2.pe, w.pt, fun op' es' p' z => w⟩
theorem s_cmp1 (l : Expr) (op : CmpOp) (r : Expr) (p : Pos) : Ser X ct cl sg W lv (.Compare l [op] [r] p) (cE us a (n + 1) sc (.Compare l [op] [r] p)) := by
  have gen : ∀ {o : Cm}, cmOf op = some o → behindInMarks op r = false → Ser X ct cl sg W lv (.Compare l [op] [r] p) (.cmp o (cE us a n sc l) (cE us a n sc r)) := fun {o} ho hb => by
    have e := cmOf_eq ho
    subst e
    exact ⟨e_cmp E.room.r (g_pe E hs tk ih l) (g_pe E hs tk ih r) hb, t_cmp E.room.r (g_pe E hs tk ih l) (g_pe E hs tk ih r) hb, fun _ _ _ z => by cases z⟩
  simp only [cE]
  split
  · exact ⟨e_isN (g_pe E hs tk ih l), t_isN (g_pe E hs tk ih l), fun _ _ _ z => by cases z⟩
  · exact ⟨e_notN (g_pe E hs tk ih l), t_notN (g_pe E hs tk ih l), fun _ _ _ z => by cases z⟩
  · split
    · rename_i o ho
      split
      · exact .never
      · rename_i hb
        exact gen ho (by simpa using hb)
    · exact .never
theorem s_cmp2 (l : Expr) (op op' : CmpOp) (m r : Expr) (p : Pos) : Ser X ct cl sg W lv (.Compare l [op, op'] [m, r] p) (cE us a (n + 1) sc (.Compare l [op, op'] [m, r] p)) := by
  simp only [cE]
  split
  · rename_i o o' h1 h2
    split
    · exact .never
    · rename_i hb
      have e1 := cmOf_eq h1
      have e2 := cmOf_eq h2
      subst e1 e2
      have hb : lastMarks [cmE o, cmE o'] [m, r] = false := by simpa using hb
      exact ⟨e_chn E.room.r (g_pe E hs tk ih l) (g_pe E hs tk ih m) (g_pe E hs tk ih r) hb, t_chn E.room.r (g_pe E hs tk ih l) (g_pe E hs tk ih m) (g_pe E hs tk ih r) hb, fun _ _ _ z => by cases z⟩
  · exact .never
theorem s_ite (t x y : Expr) (p : Pos) : Ser X ct cl sg W lv (.IfExp t x y p) (cE us a (n + 1) sc (.IfExp t x y p)) := by
  simp only [cE]
  exact ⟨e_ite (g_pt E hs tk ih t) (g_pe E hs tk ih x) (g_pe E hs tk ih y), t_ite (g_pt E hs tk ih t) (g_pt E hs tk ih x) (g_pt E hs tk ih y), fun _ _ _ z => by cases z⟩
theorem s_list (es : List Expr) (p : Pos) : Ser X ct cl sg W lv (.List es p) (cE us a (n + 1) sc (.List es p)) := by
  simp only [cE]
  exact .val (e_lst (g_S E hs tk ih es)) (fun _ => rfl) (fun _ _ _ z => by cases z)
theorem s_tuple (es : List Expr) (j : Nat) (p : Pos) : Ser X ct cl sg W lv (.Tuple es j p) (cE us a (n + 1) sc (.Tuple es j p)) := by
  simp only [cE]
  split
  · exact .never
  · rename_i h
    exact .val (e_tup (g_F E hs tk ih es (by simpa using h))) (fun _ => rfl) (fun _ _ _ z => by cases z)
theorem g_P (o : Option Expr) : PO X o (tP ct cl sg W lv (cO us a n sc o)) := by
  cases n with
  | zero => exact ⟨fun pins s σ H Q I ⟨y, c, sr, h⟩ => by simp only [cO, evP, evE] at h; exact h.elim⟩
  | succ m =>
    cases o with
    | none => simp only [cO]; exact p_none
    | some e => simp only [cO]; exact p_some (ih m (by omega) X W lv sc e E hs tk).pe
theorem s_sub (x s : Expr) (p : Pos) : Ser X ct cl sg W lv (.Subscript x s p) (cE us a (n + 1) sc (.Subscript x s p)) := by
  simp only [cE]
  split
  · exact .val (e_rev (g_pe E hs tk ih x)) (fun _ => rfl) (fun _ _ _ z => by cases z)
  · exact .val (e_slc (g_pe E hs tk ih x) (g_P E hs tk ih _) (g_P E hs tk ih _)) (fun _ => rfl) (fun _ _ _ z => by cases z)
  · exact .never
  · rename_i i h1 h2 h3
    refine .val (e_ix (g_pe E hs tk ih x) (g_pe E hs tk ih s) ?_) (fun _ => rfl) (fun _ _ _ z => by cases z)
    cases s <;> first | exact absurd rfl (h3 _ _ _ _) | exact fun _ _ => rfl
theorem tyOf_eq {x : Str} {t : Ty} (h : tyOf x = some t) : x = PySem.Str.ofString (tyS t) := by
  unfold tyOf at h
  iterate 6 (rcases ite_some h with ⟨e, rfl⟩ | h; · exact e)
  cases h
theorem s_isa (x t : Expr) (p pos : Pos) (hg : isGlb sc "isinstance" = true) (hx : isStar x = false) :
    Ser X ct cl sg W lv (.Call (.Name "isinstance" p) [x, t] [] pos) (match tysOf sc t with | some ts => .isa (cE us a n sc x) ts | none => .never) := by
  have mg : ∀ z, z ∈ bnames → X.mg z = none := E.blt
  split
  · rename_i ts ht
    refine .val ?_ (fun _ => rfl) (fun _ _ _ z => by cases z)
    have single : ∀ y q, tysOf sc (.Name y q) = some ts → t = .Name y q → PE X (.Call (.Name "isinstance" p) [x, t] [] pos) (tE ct cl sg W lv (.isa (cE us a n sc x) ts)) := fun y q h e => by
      subst e
      simp only [tysOf, Option.map_eq_some_iff] at h
      obtain ⟨u, hu, rfl⟩ := h
      exact e_isa1 (gl_of hs hg) (mg _ (by decide)) (fun z hz => gl_of hs hz) (fun u => mg _ (tyS_mem u)) (g_pe E hs tk ih x) hx hu
    cases t <;> first | (simp [tysOf, tyN] at ht; done) | skip
    · exact single _ _ ht rfl
    · rename_i es j q
      simp only [tysOf] at ht
      cases e1 : es.mapM (tyN sc) with
      | none => rw [e1] at ht; simp at ht
      | some us' =>
        rw [e1] at ht
        have ht : (if us'.length ≤ 9 then some us' else none) = some ts := ht
        split at ht
        · rename_i hl
          cases ht
          exact e_isaT (gl_of hs hg) (mg _ (by decide)) (fun z hz => gl_of hs hz) (fun u => mg _ (tyS_mem u)) (g_pe E hs tk ih x) hx e1 hl
        · cases ht
  · exact .never
theorem s_blt (f : Str) (as : List Expr) (p pos : Pos) (hg : isGlb sc f = true) (ha : as.any isStar = false) :
    Ser X ct cl sg W lv (.Call (.Name f p) as [] pos) (match btOf f as.length with | some b => .blt b (as.map (cE us a n sc)) | none => .never) := by
  split
  · rename_i b hb
    have e := btOf_eq hb
    subst e
    cases as with
    | nil => simp [btOf] at hb
    | cons e es =>
      exact .val (e_blt E.calm E.room (gl_of hs hg) (E.blt _ (btN_mem b)) (g_O E hs tk ih _ ha) ha) (fun _ => rfl) (fun _ _ _ z => by cases z)
  · exact .never
theorem s_lrng (bs : List Expr) (p p2 pos pos2 : Pos) (hg : isGlb sc "list" = true) (hg2 : isGlb sc "range" = true) (hb : bs.any isStar = false) (hl : (bs.length = 1 ∨ bs.length = 2) ∨ bs.length = 3) :
    Ser X ct cl sg W lv (.Call (.Name "list" p) [.Call (.Name "range" p2) bs [] pos2] [] pos) (.lrng (bs.map (cE us a n sc))) := by
  refine .val ?_ (fun _ => rfl) (fun _ _ _ z => by cases z)
  match bs, hl, hb with
  | [b], _, hb =>
    exact e_lrng1 E.calm (gl_of hs hg) (E.blt _ (by decide)) (gl_of hs hg2) (E.blt _ (by decide)) (g_pe E hs tk ih b) (by simpa using hb)
  | [b, d], _, hb =>
    have hb : isStar b = false ∧ isStar d = false := by simpa using hb
    exact e_lrng2 E.calm (gl_of hs hg) (E.blt _ (by decide)) (gl_of hs hg2) (E.blt _ (by decide)) (g_pe E hs tk ih b) (g_pe E hs tk ih d) hb.1 hb.2
  | [], h, _ => simp at h
  | [b, d, g], _, hb =>
    have hb : isStar b = false ∧ isStar d = false ∧ isStar g = false := by simpa using hb
    exact e_lrng3 E.calm (gl_of hs hg) (E.blt _ (by decide)) (gl_of hs hg2) (E.blt _ (by decide)) (g_F E hs tk ih [b, d, g] (by simp [hb.1, hb.2.1, hb.2.2])) rfl (notStar hb.1) (noStar (by simp [hb.2.1, hb.2.2]))
  | _ :: _ :: _ :: _ :: _, h, _ => simp at h
theorem s_call (f : Str) (p : Pos) (as : List Expr) (ks : List Keyword) (pos : Pos) : Ser X ct cl sg W lv (.Call (.Name f p) as ks pos) (cE us a (n + 1) sc (.Call (.Name f p) as ks pos)) := by
  simp only [cE]
  split
  · rename_i hg
    split
    · exact .never
    · rename_i ha
      have ha : as.any isStar = false := by simpa using ha
      split
      · rename_i hf
        split
        · rename_i kn hk
          refine .val (e_call E.room tk (E.cals f hf) (gl_of hs hg) ?_ (g_O E hs tk ih as ha) (by simp) ha (g_K E hs tk ih ks) hk) (fun _ => rfl) (fun _ _ _ z => by cases z)
          rw [beq_eq_false_iff_ne]
          exact fun e => E.nodbg (e ▸ hf)
        · exact .never
      · split
        · rename_i hk
          have hk : ks = [] := by simpa using hk
          subst hk
          split
          · rename_i hi
            subst hi
            split
            · rename_i x t ha
              have hx : isStar x = false ∧ isStar t = false := by simpa using ha
              exact s_isa E hs tk ih x t p pos hg hx.1
            · exact .never
          · split
            · rename_i g q bs q2 hfl ha
              have hfl : f = "list" := by simpa using hfl
              subst hfl
              split
              · rename_i hc
                simp only [Bool.and_eq_true, Bool.not_eq_true', decide_eq_true_eq, Bool.or_eq_true, beq_iff_eq] at hc
                obtain ⟨⟨⟨h1, h2⟩, h3⟩, h4⟩ := hc
                subst h2
                exact s_lrng E hs tk ih bs p q pos q2 hg h1 h3 h4
              · exact s_blt E hs tk ih "list" _ p pos hg ha
            · rename_i ha _
              exact s_blt E hs tk ih f _ p pos hg (by assumption)
        · exact .never
  · exact .never
theorem s_meth (x m : Str) (xp ap : Pos) (as : List Expr) (ks : List Keyword) (pos : Pos) : Ser X ct cl sg W lv (.Call (.Attribute (.Name x xp) m ap) as ks pos) (cE us a (n + 1) sc (.Call (.Attribute (.Name x xp) m ap) as ks pos)) := by
  simp only [cE]
  split
  · rename_i hc
    simp only [Bool.and_eq_true, Bool.not_eq_true', decide_eq_true_eq, List.isEmpty_iff] at hc
    obtain ⟨⟨⟨⟨⟨h1, h2⟩, h3⟩, h4⟩, h5⟩, h6⟩ := hc
    subst h4
    split
    · rename_i i hi
      obtain ⟨v, d1, d2⟩ := vis_of hs h2
      have hN : X.N[i]? = some x := by rw [E.n]; exact slotOf_get hi
      have one : ∀ mm : Mt, m = mtS mm → as.length = 1 → Ser X ct cl sg W lv (.Call (.Attribute (.Name x xp) m ap) as [] pos) (.mth mm i (as.map (cE us a n sc))) := fun mm hm hl => by
        subst hm
        match as, hl, h5 with
        | [e], _, h5 =>
          refine .val (e_mthA hN v d1 d2 ?_ h6 (by simpa using h5) (g_F E hs tk ih [e] h5)) (fun _ => rfl) (fun _ _ _ z => by cases z)
          cases mm
          · exact .inl rfl
          · exact .inr (.inl rfl)
          · exact .inr (.inr rfl)
      split
      · rename_i hm
        simp only [Bool.and_eq_true, decide_eq_true_eq, beq_iff_eq] at hm
        exact one .append hm.1 hm.2
      · split
        · rename_i hm
          simp only [Bool.and_eq_true, decide_eq_true_eq, beq_iff_eq] at hm
          exact one .extend hm.1 hm.2
        · split
          · rename_i hm
            simp only [Bool.and_eq_true, decide_eq_true_eq] at hm
            obtain ⟨hm, hl⟩ := hm
            match as, hl, h5, one with
            | [], _, _, _ =>
              subst hm
              exact .val (e_pop0 hN v d1 d2 h6) (fun _ => rfl) (fun _ _ _ z => by cases z)
            | [e], _, _, one => exact one .pop hm rfl
            | _ :: _ :: _, hl, _, _ => simp at hl
          · exact .never
    · exact .never
  · exact .never
theorem g_I (tg : Expr) (tup : Bool) (e : Expr) (ht : tup = true → ∃ es j q, tg = .Tuple es j q) : PI X tg e (tI ct cl sg W lv (cI us a n sc tup e)) := by
  cases n with
  | zero => simp only [cI]; exact i_never
  | succ m =>
    have ih' : ∀ j, j < m + 1 → Good us a ct cl sg k j := fun j hj => ih j (by omega)
    have dflt : PI X tg e (tI ct cl sg W lv (.e (cE us a m sc e))) := i_e (g_pe E hs tk ih' e)
    cases e <;> first | (simp only [cI]; exact dflt) | skip
    rename_i f as ks pos
    cases f <;> first | (simp only [cI]; exact dflt) | skip
    rename_i f p
    simp only [cI]
    split
    · rename_i hc
      simp only [Bool.and_eq_true, Bool.not_eq_true', decide_eq_false_iff_not, List.isEmpty_iff] at hc
      obtain ⟨⟨⟨hg, h2⟩, h3⟩, h4⟩ := hc
      subst h2
      split
      · rename_i hf
        subst hf
        split
        · exact i_never
        · rename_i hl
          match as, hl, h3 with
          | [x], _, h3 => exact i_rng1 (gl_of hs hg) (E.blt _ (by decide)) (g_F E hs tk ih' [x] h3) (by simpa using h3) rfl
          | [x, y], _, h3 =>
            have hh : isStar x = false ∧ isStar y = false := by simpa using h3
            exact i_rng2 (gl_of hs hg) (E.blt _ (by decide)) (g_F E hs tk ih' [x, y] h3) hh.1 hh.2 rfl
          | [x, y, z], _, h3 =>
            have hh : isStar x = false ∧ isStar y = false ∧ isStar z = false := by simpa using h3
            exact i_rng3 (gl_of hs hg) (E.blt _ (by decide)) (g_F E hs tk ih' [x, y, z] h3) hh.1 hh.2.1 hh.2.2 rfl
          | [], hl, _ => simp at hl
          | _ :: _ :: _ :: _ :: _, hl, _ => simp at hl
      · split
        · rename_i hf
          subst hf
          split
          · rename_i x y
            split
            · rename_i htup
              obtain ⟨es, j, q, rfl⟩ := ht htup
              have hh : isStar x = false ∧ isStar y = false := by simpa using h3
              exact i_zip (gl_of hs hg) (E.blt _ (by decide)) (g_pe E hs tk ih' x) (g_pe E hs tk ih' y) hh.1 hh.2
            · exact i_never
          · exact i_never
        · split
          · rename_i hf
            subst hf
            split
            · rename_i x
              split
              · rename_i htup
                obtain ⟨es, j, q, rfl⟩ := ht htup
                exact i_enm0 (gl_of hs hg) (E.blt _ (by decide)) (g_pe E hs tk ih' x) (by simpa using h3)
              · exact i_never
            · rename_i x y
              split
              · rename_i htup
                obtain ⟨es, j, q, rfl⟩ := ht htup
                have hh : isStar x = false ∧ isStar y = false := by simpa using h3
                exact i_enm (gl_of hs hg) (E.blt _ (by decide)) (g_pe E hs tk ih' x) (g_pe E hs tk ih' y) hh.1 hh.2
              · exact i_never
            · exact i_never
          · exact dflt
    · exact dflt
theorem lc_ok {e tg it : Expr} {ifs : List Expr} {bs : Scope} {ts : List Nat} {one : Bool} (ht : tgOf bs a.N tg = some (ts, one)) (hc : (blkC a.N sc bs (ownOf a.N ts) && decide (ifs.length ≤ 1) && !isSet it) = true) :
    LcOk X ct cl sg W lv e tg it ifs bs ts one (cE us a n (relS bs sc) e) (cI us a n sc (!one) it) (ifs.map (cE us a n (relS bs sc))) (ownOf a.N ts) := by
  simp only [Bool.and_eq_true, Bool.not_eq_true', decide_eq_true_eq] at hc
  obtain ⟨⟨h1, h2⟩, h3⟩ := hc
  have hN : X.N.Nodup := by rw [E.n]; exact E.nd
  have bk : BlkOk X.N X.env.scope bs (ownOf a.N ts) := by rw [E.n, hs]; exact blkOk_by h1
  have blk : ∀ (s : Shared) (H : Hp) (C : Addr) (cl' : List (Str × Addr)) (fp : List Addr) (e : Expr), Ser (X.blk s H bs (compEnvC bs cl' C X.env) fp) ct cl sg W0 lv e (cE us a n (relS bs sc) e) := fun s H C cl' fp e =>
    ih n (Nat.lt_succ_self _) _ W0 lv (relS bs sc) e E.blk (by rw [← hs]; rfl) takes0
  refine ⟨by unfold ownOf; rw [List.map_map]; exact List.map_id _, E.calm, hN, g_I E hs tk ih tg (!one) it (tg_tup ht), bk, fun f s H C cl' fp => g_tg (X := X.blk s H bs (compEnvC bs cl' C X.env) fp) E.calm (tgEnv_blk E hs) ht, fun s H C cl' fp => ?_, fun s H C cl' fp => (blk s H C cl' fp e).pe, fun x => ?_⟩
  · match ifs, h2 with
    | [], _ => exact c_nil
    | [c], _ => exact c_one (blk s H C cl' fp c).pt
    | _ :: _ :: _, h => simp at h
  · cases it <;> first | rfl | (simp [isSet] at h3)
theorem s_lc (e : Expr) (gs : List Comprehension) (bs : Scope) (p : Pos) : Ser X ct cl sg W lv (.ListComp e gs bs p) (cE us a (n + 1) sc (.ListComp e gs bs p)) := by
  match gs with
  | [⟨tg, it, ifs, ac⟩] =>
    by_cases hac : ac = 0
    case neg =>
      have e1 : cE us a (n + 1) sc (.ListComp e [⟨tg, it, ifs, ac⟩] bs p) = .never := by simp [cE, hac]
      rw [e1]
      exact .never
    subst hac
    simp only [cE]
    split
    · rename_i ts one ht
      split
      · rename_i hc
        exact .val (e_lc (lc_ok E hs tk ih ht hc)) (fun _ => rfl) (fun _ _ _ z => by cases z)
      · exact .never
    · exact .never
  | [] => simp only [cE]; exact .never
  | _ :: _ :: _ => simp only [cE]; exact .never
theorem s_all (e : Expr) : Ser X ct cl sg W lv e (cE us a (n + 1) sc e) := by
  cases e with
  | Constant c j p => exact s_const E hs tk ih c j p
  | Name x p => exact s_name E hs tk ih x p
  | BinOp l op r p => exact s_bin E hs tk ih l op r p
  | UnaryOp op x p => exact s_un E hs tk ih op x p
  | BoolOp op es p => exact s_bool E hs tk ih op es p
  | Compare l ops rs p =>
    match ops, rs with
    | [op], [r] => exact s_cmp1 E hs tk ih l op r p
    | [op, op'], [m, r] => exact s_cmp2 E hs tk ih l op op' m r p
    | [], _ => simp only [cE]; exact .never
    | [_], [] => simp only [cE]; exact .never
    | [_], _ :: _ :: _ => simp only [cE]; exact .never
    | [_, _], [] => simp only [cE]; exact .never
    | [_, _], [_] => simp only [cE]; exact .never
    | [_, _], _ :: _ :: _ :: _ => simp only [cE]; exact .never
    | _ :: _ :: _ :: _, _ => simp only [cE]; exact .never
  | IfExp t x y p => exact s_ite E hs tk ih t x y p
  | List es p => exact s_list E hs tk ih es p
  | Tuple es j p => exact s_tuple E hs tk ih es j p
  | Subscript x s p => exact s_sub E hs tk ih x s p
  | ListComp e gs bs p => exact s_lc E hs tk ih e gs bs p
  | Call f as ks p =>
    cases f with
    | Name f q => exact s_call E hs tk ih f q as ks p
    | Attribute o m ap =>
      cases o with
      | Name x xp => exact s_meth E hs tk ih x m xp ap as ks p
      | _ => simp only [cE]; exact .never
    | _ => simp only [cE]; exact .never
  | _ => simp only [cE]; exact .never
end
/-- every expression -/
theorem good : ∀ n, Good us a ct cl sg k n := by
  intro n
  induction n using Nat.strongRecOn with
  | _ n ih =>
    intro X W lv sc e E hs tk
    cases n with
    | zero => simp only [cE]; exact .never
    | succ n => exact s_all E hs tk ih e
end
end Sd

/-! Sd20: statements, one by one. -/
namespace Sd
open PySem PySem.Spec PyProof.Rows L2
/-- what has grown; within a region that may be spoilt (sp), the last one may be another -/
structure ExtS (sp : Bool) (y : Dy) (lv : Nat) (y' : Dy) : Prop where
  z : y'.Z = y.Z
  b : y'.B = y.B
  low : ∀ n, n < lv → y'.G n = y.G n
  s : Pre y.sx y'.sx
  up : sp = false → Sub (y.G lv) (y'.G lv)
theorem ExtS.of {sp : Bool} {y y' : Dy} {lv : Nat} (e : Ext y lv y') : ExtS sp y lv y' := ⟨e.z, e.b, e.g.low, e.s, fun _ => e.g.up⟩
theorem ExtS.ext {y y' : Dy} {lv : Nat} (e : ExtS false y lv y') : Ext y lv y' := ⟨e.z, e.b, ⟨e.low, e.up rfl⟩, e.s⟩
theorem ExtS.refl {sp : Bool} {y : Dy} {lv : Nat} : ExtS sp y lv y := .of .refl
theorem ExtS.trans {sp : Bool} {y y' y'' : Dy} {lv : Nat} (a : ExtS sp y lv y') (b : ExtS sp y' lv y'') : ExtS sp y lv y'' := ⟨b.z.trans a.z, b.b.trans a.b, fun n h => (b.low n h).trans (a.low n h), a.s.trans b.s, fun h => (a.up h).trans (b.up h)⟩
theorem ExtS.weak {sp : Bool} {y y' : Dy} {lv : Nat} (e : ExtS false y lv y') : ExtS sp y lv y' := .of e.ext
def PostF (o : Fw) (W : Exn → C → Prop) (N : C → Prop) (R : Fl → D → C → Prop) : Prop := match o with
  | .nx c => N c
  | .rt f d c => R f d c
  | .exc e c => W e c
  | .stuck => False
theorem PostF.imp {o : Fw} {W W' : Exn → C → Prop} {N N' : C → Prop} {R R' : Fl → D → C → Prop} (h : PostF o W N R) (hw : ∀ e c, W e c → W' e c) (hn : ∀ c, N c → N' c) (hr : ∀ f d c, R f d c → R' f d c) : PostF o W' N' R' := by
  cases o with
  | nx c => exact hn _ h
  | rt f d c => exact hr _ _ _ h
  | exc e c => exact hw _ _ h
  | stuck => exact h
theorem PostF.w {α : Type} {o : Out α} {k : α → C → Fw} {W : Exn → C → Prop} {N : C → Prop} {R : Fl → D → C → Prop} : PostF (o.w k) W N R = Post o W fun a c => PostF (k a c) W N R := by
  cases o <;> rfl
theorem PostF.then {o : Fw} {k : C → Fw} {W : Exn → C → Prop} {N : C → Prop} {R : Fl → D → C → Prop} : PostF (o.then k) W N R = PostF o W (fun c => PostF (k c) W N R) R := by
  cases o <;> rfl
section
variable (ct : Ct) (cl : Caller) (sg : Sig) (W : WX) (lv : Nat) (sp : Bool)
def XS (y : Dy) : Exn → C → Prop := fun e c' => ∀ y' σ' H' cv d, ExtS sp y lv y' → SR y' lv c' σ' H' → ExR ct y' lv H' e cv d → W cv d σ' H'
def NK (y : Dy) (N : L2.St → Hp → Prop) : C → Prop := fun c' => ∀ y' σ' H', ExtS sp y lv y' → SR y' lv c' σ' H' → N σ' H'
def RK (y : Dy) (R : VK) : Fl → D → C → Prop := fun f d c' => ∀ y' σ' v H', ExtS sp y lv y' → SR y' lv c' σ' H' → Rp y'.sx (regm y'.G lv f) d v → R v H'
def tS (i : IS) : TS := fun D σ H => ∃ y c, SR y lv c σ H ∧ PostF (exS cl sg lv sp i c) (XS ct W lv sp y) (NK lv sp y D.nx) (RK lv sp y D.rt)
def tL (is : List IS) : TS := fun D σ H => ∃ y c, SR y lv c σ H ∧ PostF (exL cl sg lv sp is c) (XS ct W lv sp y) (NK lv sp y D.nx) (RK lv sp y D.rt)
end
section
variable {X : Cx} {ct : Ct} {cl : Caller} {sg : Sig} {W : WX} {lv : Nat} {sp : Bool} {y y' : Dy} {c : C} {σ : L2.St} {H : Hp}
theorem XS.xw (e : Exn) (c : C) (h : XS ct W lv sp y e c) : XW ct lv y σ W e c := fun y' H' cv d x s r => h y' σ H' cv d (.of x) s r
theorem XS.ext (x : ExtS sp y lv y') (e : Exn) (c : C) (h : XS ct W lv sp y e c) : XS ct W lv sp y' e c := fun y2 σ' H' cv d x2 s r => h y2 σ' H' cv d (x.trans x2) s r
theorem NK.ext {N : L2.St → Hp → Prop} (x : ExtS sp y lv y') (c : C) (h : NK lv sp y N c) : NK lv sp y' N c := fun y2 σ' H' x2 s => h y2 σ' H' (x.trans x2) s
theorem RK.ext {R : VK} (x : ExtS sp y lv y') (f : Fl) (d : D) (c : C) (h : RK lv sp y R f d c) : RK lv sp y' R f d c := fun y2 σ' v H' x2 s r => h y2 σ' v H' (x.trans x2) s r
theorem PostF.ext {o : Fw} {N : L2.St → Hp → Prop} {R : VK} (x : ExtS sp y lv y') (h : PostF o (XS ct W lv sp y) (NK lv sp y N) (RK lv sp y R)) : PostF o (XS ct W lv sp y') (NK lv sp y' N) (RK lv sp y' R) :=
  h.imp (XS.ext x) (NK.ext x) (RK.ext x)
/-- the strict relation serves the weaker one -/
theorem XS.down (e : Exn) (c : C) (h : XS ct W lv sp y e c) : XS ct W lv false y e c := fun y2 σ' H' cv d x2 s r => h y2 σ' H' cv d x2.weak s r
theorem NK.down {N : L2.St → Hp → Prop} (c : C) (h : NK lv sp y N c) : NK lv false y N c := fun y2 σ' H' x2 s => h y2 σ' H' x2.weak s
theorem RK.down {R : VK} (f : Fl) (d : D) (c : C) (h : RK lv sp y R f d c) : RK lv false y R f d c := fun y2 σ' v H' x2 s r => h y2 σ' v H' x2.weak s r
/-- a step into an expression -/
theorem goS {α : Type} {o : Out α} {k : α → C → Fw} {N : C → Prop} {R : Fl → D → C → Prop} (h : PostF (o.w k) (XS ct W lv sp y) N R) : Post o (XW ct lv y σ W) fun a c => PostF (k a c) (XS ct W lv sp y) N R := by
  rw [PostF.w] at h
  exact h.imp XS.xw fun _ _ z => z

/-! ### blocks -/
theorem l_nil : PSs X [] (tL ct cl sg W lv sp []) := pss_nil.conseq fun D σ H ⟨y, c, s, h⟩ => by
  simp only [exL] at h
  exact h y σ H .refl s
theorem l_cons {i : IS} {is : List IS} {st : Stmt} {ss : List Stmt} (h1 : PS X st (tS ct cl sg W lv sp i)) (h2 : PSs X ss (tL ct cl sg W lv sp is)) : PSs X (st :: ss) (tL ct cl sg W lv sp (i :: is)) :=
  (pss_cons h1 h2).conseq fun D σ H ⟨y, c, s, h⟩ => by
    simp only [exL] at h
    rw [PostF.then] at h
    exact ⟨y, c, s, h.imp (fun _ _ z => z) (fun c1 q y1 σ1 H1 x1 s1 => ⟨y1, c1, s1, q.ext x1⟩) fun _ _ _ z => z⟩
theorem s_never {st : Stmt} : PS X st (tS ct cl sg W lv sp .never) := ps_never.conseq fun D σ H ⟨y, c, s, h⟩ => by
  simp only [exS] at h
  exact h
theorem l_never {ss : List Stmt} {is : List IS} : PSs X ss (tL ct cl sg W lv sp (.never :: is)) := pss_never.conseq fun D σ H ⟨y, c, s, h⟩ => by
  simp only [exL, exS] at h
  exact h

/-! ### small statements -/
theorem s_pass {pos : Pos} : PS X (.Pass pos) (tS ct cl sg W lv sp .pass) := ps_pass.conseq fun D σ H ⟨y, c, s, h⟩ => by
  simp only [exS] at h
  exact h y σ H .refl s
theorem s_doc {x j pos pos'} : PS X (.Expr (.Constant (.str x) j pos) pos') (tS ct cl sg W lv sp .pass) := ps_doc.conseq fun D σ H ⟨y, c, s, h⟩ => by
  simp only [exS] at h
  exact h y σ H .refl s
theorem s_expr {e : Expr} {i : IE} {pos : Pos} (he : PE X e (tE ct cl sg W lv i)) (hs : swapsWith e none pos.line X.env = pure false) : PS X (.Expr e pos) (tS ct cl sg W lv sp (.expr i)) :=
  (ps_expr he hs).conseq fun D σ H ⟨y, c, s, h⟩ => by
    simp only [exS] at h
    exact ⟨y, c, s, (goS h).imp (fun _ _ z => z) fun r c1 q y1 v H1 x1 s1 r1 => q y1 σ H1 (.of x1) s1⟩
theorem s_ret {e : Expr} {i : IE} {pos : Pos} (he : PE X e (tE ct cl sg W lv i)) : PS X (.Return (some e) pos) (tS ct cl sg W lv sp (.ret i)) :=
  (ps_ret he).conseq fun D σ H ⟨y, c, s, h⟩ => by
    simp only [exS] at h
    exact toZ s ((goS h).imp (fun _ _ z => z) fun fd c1 q y1 v H1 x1 s1 r1 => q y1 σ v H1 (.of x1) s1 r1.nrm)
theorem s_retN {pos : Pos} : PS X (.Return none pos) (tS ct cl sg W lv sp .retN) := ps_retN.conseq fun D σ H ⟨y, c, s, h⟩ => by
  simp only [exS] at h
  exact h y σ .non H .refl s (by simp [Rp])
theorem s_if {e : Expr} {a b : List Stmt} {i : IE} {ia ib : List IS} {pos : Pos} (he : PT X e (tT ct cl sg W lv i)) (ha : PSs X a (tL ct cl sg W lv sp ia)) (hb : PSs X b (tL ct cl sg W lv sp ib)) : PS X (.If e a b pos) (tS ct cl sg W lv sp (.ite i ia ib)) :=
  (ps_if he ha hb).conseq fun D σ H ⟨y, c, s, h⟩ => by
    simp only [exS] at h
    refine ⟨y, c, s, (goS h).imp (fun _ _ z => z) fun k c1 q y1 H1 x1 s1 => ?_⟩
    cases k with
    | true => rw [if_pos rfl]; exact ⟨y1, c1, s1, PostF.ext (.of x1) q⟩
    | false => rw [if_neg Bool.false_ne_true]; exact ⟨y1, c1, s1, PostF.ext (.of x1) q⟩
theorem frzW {α : Type} {r : R} {v : V} {k : Fl × D → C → Fw} {N : C → Prop} {Rr : Fl → D → C → Prop} (s : SR y lv c σ H) (h : RelR y lv c σ H r v) (q : PostF ((frz lv c r).w k) (XS ct W lv sp y) N Rr) :
    ∃ f d c' y', PostF (k (f, d) c') (XS ct W lv sp y) N Rr ∧ Ext y lv y' ∧ SR y' lv c' σ H ∧ Rp y'.sx (regm y'.G lv f) d v := by
  rw [PostF.w] at q
  exact frz_ok s h q
theorem PostF.ext' {o : Fw} {N : C → Prop} {R : Fl → D → C → Prop} (x : Ext y lv y') (h : PostF o (XS ct W lv sp y) N R) : PostF o (XS ct W lv sp y') N R := h.imp (XS.ext (.of x)) (fun _ z => z) fun _ _ _ z => z
/-- a name is given a value -/
theorem s_name' {e : Expr} {i : Nat} {own : Bool} {ie : IE} {pos px : Pos} {x : Str} (h : PS X (.Assign [.Name x px] e pos) (tAsg (tE ct cl sg W lv ie) (gName i))) : PS X (.Assign [.Name x px] e pos) (tS ct cl sg W lv sp (.asg i own ie)) :=
  h.conseq fun D σ H ⟨y, c, s, h⟩ => by
    simp only [exS] at h
    refine ⟨y, c, s, (goS h).imp (fun _ _ z => z) fun r c1 q y1 v H1 x1 s1 r1 => ?_⟩
    have shr : PostF ((frz lv c1 r).w fun (f, d) c => .nx { c with r := c.r.set i (.sh (nrm d f) d) }) (XS ct W lv sp y) (NK lv sp y D.nx) (RK lv sp y D.rt) → D.nx (σ.set i (some v)) H1 := fun q => by
      rw [PostF.w] at q
      obtain ⟨f, d, c2, y2, k, x2, s2, rp⟩ := frz_ok s1 r1 q
      exact k y2 _ H1 (.of (x1.trans x2)) (s2.store rp.nrm)
    cases own with
    | false => exact shr q
    | true =>
      cases r with
      | val f d => exact shr q
      | bor j => exact shr q
      | new f d =>
        obtain ⟨p, rfl, o, n⟩ := r1
        exact q y1 _ H1 (.of x1) (s1.own o n)
theorem s_asgT {tg e : Expr} {ts : List Nat} {ie : IE} {pos : Pos} (he : PE X e (tE ct cl sg W lv ie)) (hg : ∀ f, PG X tg (gT lv f ts false)) (hs : swapsWithSole [tg] e pos.line X.env = pure false) (hw : swappedStores [tg] e X.env = pure none) (h1 : (assignEach [tg] X.env).map (·.2) = [assign tg X.env]) :
    PS X (.Assign [tg] e pos) (tS ct cl sg W lv sp (.asgT ts ie)) := by
  have hg' : PG X tg (fun v σ H Q => ∃ f, gT lv f ts false v σ H Q) := ⟨fun pins s1 σ H1 v u Q I r ⟨f, q⟩ => (hg f).run pins s1 σ H1 v u Q I r q⟩
  refine (ps_asg he hg' hs hw h1).conseq fun D σ H ⟨y, c, s, h⟩ => ?_
  simp only [exS] at h
  refine toZ s ((goS h).imp (fun _ _ z => z) fun fd c1 q y1 v H1 x1 s1 r1 => ?_)
  obtain ⟨f, d⟩ := fd
  rw [PostF.w, Post.ofOpt] at q
  obtain ⟨r', hr, q⟩ := q
  refine ⟨f, y1, c1, d, r', s1, r1, ?_, fun σ' s2 _ => q y1 σ' H1 (.of x1) s2⟩
  cases d <;> first | (simp [seqOf] at hr; done) | exact hr
theorem s_setIx {e ix : Expr} {i : Nat} {x : Str} {ie iix : IE} {pos px ps : Pos} (hN : X.N[i]? = some x) (hv : Vis X.env.scope x) (hd : (x == ("__debug__" : Str)) = false) (hcd : (x == ("__classdict__" : Str)) = false) (he : PE X e (tE ct cl sg W lv ie)) (hi : PE X ix (tE ct cl sg W lv iix))
    (ha : ∀ v, assign (.Subscript (.Name x px) ix ps) X.env v = (do
      let ov ← holding [v] (eval (.Name x px) X.env)
      let iv ← holding [v, ov] (eval ix X.env)
      standAt ps
      holding [v, ov, iv] (setItem ov iv v)
      release [v, ov, iv] [])) (hs : swapsWithSole [.Subscript (.Name x px) ix ps] e pos.line X.env = pure false) (hw : swappedStores [.Subscript (.Name x px) ix ps] e X.env = pure none) :
    PS X (.Assign [.Subscript (.Name x px) ix ps] e pos) (tS ct cl sg W lv sp (.setIx i iix ie)) :=
  (ps_asg he (pg_sub (pe_var hN hv hd hcd) hi set_list ha) hs hw rfl).conseq fun D σ H ⟨y, c, s, h⟩ => by
    simp only [exS] at h
    refine toZ s ((goS h).imp (fun _ _ z => z) fun fd c1 q y1 v H1 x1 s1 r1 => ?_)
    obtain ⟨g, d⟩ := fd
    dsimp only at q
    by_cases ho : isOwnL c1 i = true
    case neg => rw [if_neg ho] at q; exact q.elim
    rw [if_pos ho] at q
    obtain ⟨f0, xs0, p, vs0, h2, h3, h4, h5⟩ := ownL s1 ho
    refine ⟨.ref p, h3, toZ s1 ((goS (PostF.ext' x1 q)).imp (fun _ _ z => z) fun kd c2 q2 y2 u H2 x2 s2 r2 => ?_)⟩
    obtain ⟨g2, kk⟩ := kd
    split at q2
    · rename_i f xs n hs2 hk
      have hk : kk = .int n := hk
      subst hk
      split at q2
      · rename_i j hj
        have hu : u = .int n := by simpa only [Rp] using r2
        subst hu
        obtain ⟨ws, h6, h7⟩ := ownC s2 hs2 h3
        have rv := Rp.ext x2 s1 s2 r1
        refine ⟨p, ws, n, j, rfl, rfl, h6, by rw [h7.length]; exact hj, q2 y2 _ _ (.of (x1.trans x2)) (s2.change hs2 h3 (Rps.set (Rp.mono (Pre.refl _) (regm_join_r s2.g) _ _ rv.nrm) j (Rps.mono (Pre.refl _) (regm_join_l s2.g) _ _ h7)))⟩
      · exact q2.elim
    · exact q2.elim
end
end Sd


/-! Sd20b: new things that wait. -/
namespace Sd
open PySem PySem.Spec PyProof.Rows L2
abbrev Dy.hold (y : Dy) (p : Addr) (o : HO) : Dy := { y with Z := upd y.Z p o, B := upd y.B p o }
abbrev Dy.let (y2 y : Dy) : Dy := { y2 with Z := y.Z, B := y.B }
section
variable {y y2 : Dy} {lv : Nat} {c c2 : C} {σ σ2 : L2.St} {H H2 : Hp} {p : Addr} {o : HO}
theorem OwnR.ne {f : Fl} {d : D} {q : Addr} (h : OwnR y lv H f d q) (n : ∀ i, ¬ OwnAt c σ i p) {i : Nat} (hi : c.r[i]? = some (.ow f d)) (hq : σ[i]? = some (some (.ref q))) : q ≠ p := fun e => n i ⟨⟨f, d, hi⟩, e ▸ hq⟩
theorem SR.hold (s : SR y lv c σ H) (hp : H p = some o) (h1 : y.G lv p = none) (h4 : NotStr y.sx p) (n : ∀ i, ¬ OwnAt c σ i p) : SR (y.hold p o) lv c σ H := by
  have none_ne : ∀ {G : Hp} {a : Addr}, a ≠ p → upd G p o a = G a := fun {G a} h => upd_ne h
  refine ⟨s.pos, fun a h => ?_, s.g, s.top, fun a u h => ?_, fun a h => ?_, fun a u h => ?_, fun i sl hi => ?_, s.inj, ⟨s.str.len, s.str.at_, fun q hq => ?_, s.str.nd⟩, s.len⟩
  · by_cases e : a = p
    · subst e; show upd y.B a o a ≠ none; rw [upd_same]; exact (fun z => by cases z)
    · show upd y.B p o a ≠ none
      rw [upd_ne e]; exact s.zb a (by have h : upd y.Z p o a ≠ none := h; rw [upd_ne e] at h; exact h)
  · have h : upd y.Z p o a = some u := h
    by_cases e : a = p
    · subst e; rw [upd_same] at h; cases h; exact hp
    · rw [upd_ne e] at h; exact s.prot a u h
  · have h : upd y.B p o a ≠ none := h
    by_cases e : a = p
    · subst e; rw [hp]; exact (fun z => by cases z)
    · rw [upd_ne e] at h; exact s.old a h
  · have e : a ≠ p := fun e => by subst e; rw [h1] at h; cases h
    show y.G 0 a = some u ∨ upd y.B p o a = none
    rw [upd_ne e]; exact s.fresh a u h
  · have q := s.slots i sl hi
    cases sl with
    | un => trivial
    | sh f d => exact q
    | ow f d =>
      obtain ⟨q1, e1, o1, o2, o3, o4, o5⟩ := q
      have e : q1 ≠ p := fun e => n i ⟨⟨f, d, hi⟩, getD_some.mp (e ▸ e1)⟩
      exact ⟨q1, e1, o1, by show upd y.Z p o q1 = none; rw [upd_ne e]; exact o2, by show upd y.B p o q1 = none; rw [upd_ne e]; exact o3, o4, o5⟩
  · obtain ⟨a1, a2, a3, a4⟩ := s.str.off q hq
    obtain ⟨n1, n2⟩ := h4 q hq
    exact ⟨a1, a2, by show upd y.Z p o q.1 = none; rw [upd_ne (Ne.symm n1)]; exact a3, by show upd y.Z p o q.2 = none; rw [upd_ne (Ne.symm n2)]; exact a4⟩
theorem let_none {G : Hp} {a : Addr} (h : upd G p o a = none) : a ≠ p ∧ G a = none := by
  have e : a ≠ p := fun e => by subst e; rw [upd_same] at h; cases h
  exact ⟨e, by rw [upd_ne e] at h; exact h⟩
theorem Ext.let (x : Ext (y.hold p o) lv y2) : Ext y lv (y2.let y) := ⟨rfl, rfl, x.g, x.s⟩
theorem OwnR.let (x : Ext (y.hold p o) lv y2) {f : Fl} {d : D} {q : Addr} (h : OwnR y2 lv H2 f d q) : q ≠ p ∧ OwnR (y2.let y) lv H2 f d q := by
  obtain ⟨o1, o2, o3, o4, o5⟩ := h
  rw [x.z] at o2
  rw [x.b] at o3
  exact ⟨(let_none o2).1, o1, (let_none o2).2, (let_none o3).2, o4, o5⟩
/-- what waited stands as it stood -/
theorem SR.let (s : SR y lv c σ H) (h1 : y.G lv p = none) (hz : y.Z p = none) (x : Ext (y.hold p o) lv y2) (s2 : SR y2 lv c2 σ2 H2) :
    SR (y2.let y) lv c2 σ2 H2 ∧ H2 p = some o ∧ y2.G lv p = none ∧ NotStr y2.sx p ∧ ∀ i, ¬ OwnAt c2 σ2 i p := by
  have zp : y2.Z p = some o := by rw [x.z]; exact upd_same
  have bp : y2.B p ≠ none := by rw [x.b]; show upd y.B p o p ≠ none; rw [upd_same]; exact (fun z => by cases z)
  refine ⟨⟨s2.pos, s.zb, s2.g, s2.top, fun a u h => ?_, fun a h => ?_, fun a u h => ?_, fun i sl hi => ?_, s2.inj, ⟨s2.str.len, s2.str.at_, fun q hq => ?_, s2.str.nd⟩, s2.len⟩, s2.prot p o zp, ?_, fun q hq => ?_, fun i hi => ?_⟩
  · by_cases e : a = p
    · subst e
      exfalso
      have h : y.Z a = some u := h
      rw [hz] at h; cases h
    · exact s2.prot a u (by rw [x.z]; show upd y.Z p o a = some u; rw [upd_ne e]; exact h)
  · by_cases e : a = p
    · subst e; rw [s2.prot a o zp]; exact (fun z => by cases z)
    · exact s2.old a (by rw [x.b]; show upd y.B p o a ≠ none; rw [upd_ne e]; exact h)
  · rcases s2.fresh a u h with z | z
    · exact .inl z
    · rw [x.b] at z; exact .inr (let_none z).2
  · have q := s2.slots i sl hi
    cases sl with
    | un => trivial
    | sh f d => exact q
    | ow f d => obtain ⟨q1, e1, e2⟩ := q; exact ⟨q1, e1, (e2.let x).2⟩
  · obtain ⟨a1, a2, a3, a4⟩ := s2.str.off q hq
    rw [x.z] at a3 a4
    exact ⟨a1, a2, (let_none a3).2, (let_none a4).2⟩
  · cases e : y2.G lv p with
    | none => rfl
    | some u =>
      rcases s2.fresh p u e with z | z
      · rw [x.g.low 0 s.pos] at z
        have := (s.g.mono 0 lv (Nat.zero_le _)).none h1
        have z : y.G 0 p = some u := z
        rw [this] at z; cases z
      · exact absurd z bp
  · obtain ⟨_, _, a3, a4⟩ := s2.str.off q hq
    exact ⟨(fun e => by rw [← e, zp] at a3; cases a3), (fun e => by rw [← e, zp] at a4; cases a4)⟩
  · obtain ⟨⟨f, d, hf⟩, hs⟩ := hi
    obtain ⟨q1, e1, _, o2, _⟩ := s2.slots i _ hf
    rw [getD_some.mpr hs] at e1
    cases e1
    rw [zp] at o2; cases o2
end
/-! ### values, some of them new -/
def nws : List R → List V → List V
  | .new _ _ :: rs, v :: vs => v :: nws rs vs
  | _ :: rs, _ :: vs => nws rs vs
  | _, _ => []
def RelN (y : Dy) (lv : Nat) (c : C) (σ : L2.St) (H : Hp) : List R → List V → Prop
  | [], vs => vs = []
  | r :: rs, vs => ∃ v w, vs = v :: w ∧ (RelR y lv c σ H r v ∧ ∀ i, r ≠ .bor i) ∧ RelN y lv c σ H rs w
theorem nws_own {y : Dy} {lv : Nat} {c : C} {σ : L2.St} {H : Hp} : ∀ {rs : List R} {vs : List V}, RelN y lv c σ H rs vs → ∀ v ∈ nws rs vs, ∃ f d p, v = .ref p ∧ OwnR y lv H f d p
  | [], vs, h, v, hv => by simp only [RelN] at h; subst h; simp [nws] at hv
  | r :: rs, vs, h, v, hv => by
    simp only [RelN] at h
    obtain ⟨u, w, rfl, h1, h2⟩ := h
    cases r with
    | val f d => exact nws_own h2 v hv
    | bor i => exact nws_own h2 v hv
    | new f d =>
      simp only [nws] at hv
      rcases List.mem_cons.mp hv with rfl | hv
      · obtain ⟨⟨p, rfl, o, _⟩, _⟩ := h1; exact ⟨f, d, p, rfl, o⟩
      · exact nws_own h2 v hv
section
variable (ct : Ct) (cl : Caller) (sg : Sig) (W : WX) (lv : Nat)
def tAn (es : List (Bool × IE)) : TA := fun σ H Q => ∃ y c, SR y lv c σ H ∧ Post (evN cl sg lv es c) (XW ct lv y σ W) fun rs c' => ∀ y' vs H', Ext y lv y' → SR y' lv c' σ H' → RelN y' lv c' σ H' rs vs → (nws rs vs).Nodup → Q vs H'
end
section
variable {X : Cx} {ct : Ct} {cl : Caller} {sg : Sig} {W : WX} {lv : Nat} {y y2 : Dy} {c c2 : C} {σ : L2.St} {H H2 : Hp} {p : Addr} {o : HO}
theorem RelN.let (x : Ext (y.hold p o) lv y2) : ∀ {rs : List R} {vs : List V}, RelN y2 lv c2 σ H2 rs vs → RelN (y2.let y) lv c2 σ H2 rs vs
  | [], vs, h => h
  | r :: rs, vs, h => by
    simp only [RelN] at h ⊢
    obtain ⟨v, w, e, ⟨h1, h0⟩, h2⟩ := h
    refine ⟨v, w, e, ⟨?_, h0⟩, h2.let x⟩
    cases r with
    | val f d => exact h1
    | bor i => exact h1
    | new f d => obtain ⟨q, e1, o1, n⟩ := h1; exact ⟨q, e1, (o1.let x).2, n⟩
theorem RelN.val {f : Fl} {d : D} {v : V} {rs : List R} {vs : List V} (h : Rp y.sx (regm y.G lv f) d v) (k : RelN y lv c σ H rs vs) : RelN y lv c σ H (.val (nrm d f) d :: rs) (v :: vs) := by
  simp only [RelN]; exact ⟨v, vs, rfl, ⟨h.nrm, fun i z => by cases z⟩, k⟩
theorem a_nilN : PA X [] (tAn ct cl sg W lv []) := pa_nil.conseq fun σ H Q ⟨y, c, s, h⟩ => by
  simp only [evN] at h
  exact h y [] H Ext.refl s (by simp [RelN]) (by simp [nws])
theorem a_consN {b : Bool} {a : IE} {as : List (Bool × IE)} {e : Expr} {es : List Expr} (ha : PE X e (tE ct cl sg W lv a)) (hr : PA X es (tAn ct cl sg W lv as)) (hs : isStar e = false) : PA X (e :: es) (tAn ct cl sg W lv ((b, a) :: as)) :=
  (pa_cons ha hr (notStar hs)).conseq fun σ H Q ⟨y, c, s, h⟩ => by
    simp only [evN] at h
    rw [Post.bind] at h
    refine ⟨y, c, s, h.imp (fun _ _ z => z) fun r c1 q1 y1 v H1 x1 s1 r1 => ?_⟩
    have plain : ∀ {K : List R → C → Prop}, Post ((frz lv c1 r).bind fun (f, d) c => (evN cl sg lv as c).bind fun rs c => .ok (.val (nrm d f) d :: rs) c) (XW ct lv y σ W) (fun rs c' => ∀ y' vs H', Ext y lv y' → SR y' lv c' σ H' → RelN y' lv c' σ H' rs vs → (nws rs vs).Nodup → Q vs H') → tAn ct cl sg W lv as σ H1 (fun vs H2 => Q (v :: vs) H2) := fun {K} q => by
      rw [Post.bind] at q
      obtain ⟨f, d, c3, y3, q3, x3, s3, r3⟩ := frz_ok s1 r1 q
      dsimp only at q3
      rw [Post.bind] at q3
      refine ⟨y3, c3, s3, q3.imp (XW.ext (x1.trans x3)) fun rs c4 q4 y4 vs H4 x4 s4 r4 n4 => ?_⟩
      exact q4 y4 (v :: vs) H4 ((x1.trans x3).trans x4) s4 (.val (Rp.ext x4 s3 s4 r3) r4) n4
    split at q1
    · rename_i f d _
      rw [Post.bind] at q1
      obtain ⟨p, rfl, o1, n1⟩ := r1
      have o1' := o1
      obtain ⟨g1, g2, g3, g4, g5⟩ := o1
      cases d <;> first | exact g5.elim | skip
      rename_i xs
      obtain ⟨ws, g6, g7⟩ := g5
      refine ⟨y1.hold p (.lst ws), c1, s1.hold g6 g1 g4 n1, q1.imp (fun e c2 z y' H' cv dd x s r => ?_) fun rs c2 q2 y2 vs H2 x2 s2 r2 nd => ?_⟩
      · obtain ⟨s3, _⟩ := s1.let g1 g2 x s
        exact z (y'.let y1) H' cv dd (x1.trans x.let) s3 r
      · obtain ⟨s3, e1, e2, e3, e4⟩ := s1.let g1 g2 x2 s2
        have b0 : (y2.let y1).B p = none := g3
        refine q2 (y2.let y1) (.ref p :: vs) H2 (x1.trans x2.let) s3 ?_ ?_
        · simp only [RelN]
          exact ⟨_, _, rfl, ⟨⟨p, rfl, ⟨e2, g2, g3, e3, ws, e1, Rps.ext x2.let s1 s3 g7⟩, e4⟩, fun i z => by cases z⟩, r2.let x2⟩
        · simp only [nws, List.nodup_cons]
          refine ⟨fun hm => ?_, nd⟩
          obtain ⟨f', d', q', e, ow⟩ := nws_own r2 _ hm
          cases e
          exact (ow.let x2).1 rfl
    · exact plain (K := fun _ _ => True) q1
theorem RelN.set {t : Nat} {sl : Slot} {v : V} (hs : ∀ f d, sl = .ow f d → ∃ p, v = .ref p) : ∀ {rs : List R} {w : List V} {c : C} {σ : L2.St}, RelN y lv c σ H rs w → (∀ f d, sl = .ow f d → v ∉ nws rs w) → RelN y lv { c with r := c.r.set t sl } (σ.set t (some v)) H rs w
  | [], w, c, σ, h, _ => h
  | r :: rs, w, c, σ, h, nd => by
    simp only [RelN] at h ⊢
    obtain ⟨u, z, rfl, ⟨k1, k0⟩, k2⟩ := h
    have nd2 : ∀ f d, sl = .ow f d → v ∉ nws rs z := fun f d e hm => by
      refine nd f d e ?_
      cases r <;> first | exact hm | (simp only [nws]; exact List.mem_cons_of_mem _ hm)
    refine ⟨u, z, rfl, ⟨?_, k0⟩, RelN.set hs k2 nd2⟩
    cases r with
    | val f d => exact k1
    | bor i => exact absurd rfl (k0 i)
    | new f2 d2 =>
      obtain ⟨q, rfl, o1, n⟩ := k1
      refine ⟨q, rfl, o1, fun i ⟨⟨f3, d3, h3⟩, h4⟩ => ?_⟩
      have h3 : (c.r.set t sl)[i]? = some (.ow f3 d3) := h3
      by_cases hij : t = i
      · subst hij
        have hi : t < c.r.length := by
          have := (List.getElem?_eq_some_iff.mp h3).1
          simpa using this
        have hi2 : t < σ.length := by
          have := (List.getElem?_eq_some_iff.mp h4).1
          simpa using this
        rw [List.getElem?_set_self hi] at h3
        rw [List.getElem?_set_self hi2] at h4
        cases h3; cases h4
        exact nd f3 d3 rfl (by simp [nws])
      · rw [List.getElem?_set_ne hij] at h3 h4; exact n i ⟨⟨f3, d3, h3⟩, h4⟩
theorem a_mapN {f : Expr → IE} : ∀ {fs : List Bool} {es : List Expr}, (∀ e, PE X e (tE ct cl sg W lv (f e))) → es.any isStar = false → fs.length = es.length → PA X es (tAn ct cl sg W lv (fs.zip (es.map f)))
  | [], [], _, _, _ => a_nilN
  | b :: fs, e :: es, h, hs, hl => by
    have h1 : isStar e = false ∧ es.any isStar = false := by simpa using hs
    exact a_consN (h e) (a_mapN h h1.2 (by simpa using hl)) h1.1
  | [], _ :: _, _, _, hl => by simp at hl
  | _ :: _, [], _, _, hl => by simp at hl
/-- the slots behind -/
theorem SR.setRs : ∀ {ts : List Nat} {rs : List R} {vs : List V} {c : C} {σ : L2.St} {r' : List Slot}, SR y lv c σ H → RelN y lv c σ H rs vs → (nws rs vs).Nodup → Sd.setRs ts rs c.r = some r' → vs.length = ts.length ∧ SR y lv { c with r := r' } (setV σ ts vs) H
  | [], [], vs, c, σ, r', s, r, nd, h => by
    simp only [Sd.setRs, Option.some.injEq] at h
    subst h
    simp only [RelN] at r
    subst r
    exact ⟨rfl, s⟩
  | t :: ts, .val f d :: rs, vs, c, σ, r', s, r, nd, h => by
    simp only [RelN] at r
    obtain ⟨v, w, rfl, ⟨h1, _⟩, h2⟩ := r
    simp only [Sd.setRs] at h
    obtain ⟨a, b⟩ := SR.setRs (ts := ts) (rs := rs) (c := { c with r := c.r.set t (.sh f d) }) (s.store h1) (h2.set (fun _ _ z => by cases z) (fun _ _ z => by cases z)) nd h
    exact ⟨by simp [a], b⟩
  | t :: ts, .new f d :: rs, vs, c, σ, r', s, r, nd, h => by
    simp only [RelN] at r
    obtain ⟨v, w, rfl, ⟨⟨p, rfl, o1, n1⟩, _⟩, h2⟩ := r
    simp only [Sd.setRs] at h
    simp only [nws, List.nodup_cons] at nd
    obtain ⟨a, b⟩ := SR.setRs (ts := ts) (rs := rs) (c := { c with r := c.r.set t (.ow f d) }) (s.own o1 n1) (h2.set (fun _ _ _ => ⟨p, rfl⟩) (fun _ _ _ => nd.1)) nd.2 h
    exact ⟨by simp [a], b⟩
  | [], _ :: _, _, _, _, _, _, _, _, h => by simp [Sd.setRs] at h
  | _ :: _, [], _, _, _, _, _, _, _, h => by simp [Sd.setRs] at h
  | _ :: _, .bor _ :: _, _, _, _, _, _, _, _, h => by simp [Sd.setRs] at h
end
end Sd

/-! Sd21: pairs, loops, regions. -/
namespace Sd
open PySem PySem.Spec PyProof.Rows L2
theorem swap_eq {env : Env} {sc : Scope} (hk : env.scope.kind = .function) (hs : env.scope = sc) {ts vs : List Expr} {r : Option (List Str)} {k k2 : Nat} {p p2 : Pos} (h : swapN sc ts vs = some r) : swappedStores [.Tuple ts k p] (.Tuple vs k2 p2) env = pure r := by
  have hb : env.blockKind = .function := by unfold Env.blockKind; rw [hk]; rfl
  have hst : (vs.any fun | .Starred .. => true | _ => false) = vs.any isStar := by
    congr 1
  unfold swappedStores
  unfold swapN at h
  simp only [hb, hst]
  have hkind : ∀ x, env.kindOf x = sc.names.lookup x := fun x => by rw [← hs]; rfl
  simp only [hkind]
  have z : (ScopeKind.function != ScopeKind.function) = false := by decide
  rw [z, Bool.or_false]
  by_cases h1 : (!(ts.length == 2 || ts.length == 3) || vs.length != ts.length) = true
  · rw [if_pos h1] at h ⊢
    cases h; rfl
  rw [if_neg h1] at h ⊢
  by_cases h2 : vs.any isStar = true
  · rw [if_pos h2] at h
    cases h
    exact if_pos h2
  rw [if_neg h2] at h
  refine (if_neg h2).trans ?_
  dsimp only at h
  split at h
  · rename_i h3
    cases h
    exact if_pos h3
  · rename_i h3
    refine (if_neg h3).trans ?_
    split at h
    · rename_i h4
      cases h
      exact if_pos h4
    · rename_i h4
      refine (if_neg h4).trans ?_
      split at h
      · cases h
      · rename_i h5
        cases h
        exact if_neg h5
section
variable {X : Cx} {ct : Ct} {cl : Caller} {sg : Sig} {W : WX} {lv : Nat} {sp : Bool} {y y' : Dy} {c : C} {σ : L2.St} {H : Hp}

/-! ### pairs -/
theorem par_go {ts : List Nat} {es : List IE} {Q : List V → Hp → Prop} {D : Ends} (s : SR y lv c σ H) (h : PostF (exS cl sg lv sp (.par ts es) c) (XS ct W lv sp y) (NK lv sp y D.nx) (RK lv sp y D.rt))
    (k : ∀ y1 c1 H1 f ds vs r', Ext y lv y1 → SR y1 lv c1 σ H1 → Rps y1.sx (regm y1.G lv f) ds vs → setTs f ts ds c1.r = some r' → (∀ y2 σ' H2, Ext y lv y2 → SR y2 lv { c1 with r := r' } σ' H2 → D.nx σ' H2) → Q vs H1) : tAf ct cl sg W lv es σ H Q := by
  simp only [exS] at h
  refine ⟨y, c, s, (goS h).imp (fun _ _ z => z) fun fd c1 q y1 vs H1 x1 s1 r1 => ?_⟩
  obtain ⟨f, ds⟩ := fd
  rw [PostF.w, Post.ofOpt] at q
  obtain ⟨r', hr, q⟩ := q
  exact k y1 c1 H1 f ds vs r' x1 s1 r1 hr fun y2 σ' H2 x2 s2 => q y2 σ' H2 (.of x2) s2
theorem s_par2 {i j : Nat} {x z : Str} {a b : Expr} {es : List IE} {px py pt pos : Pos} {kt k2 : Nat} {pt2 : Pos} (hc : X.calm = true) (hN : X.N.Nodup) (hi : X.N[i]? = some x) (hj : X.N[j]? = some z) (hij : i ≠ j) (hx : X.env.scope.names.lookup x = some .local) (hz : X.env.scope.names.lookup z = some .local)
    (ha : PA X [a, b] (tAf ct cl sg W lv es)) (hw : swappedStores [.Tuple [.Name x px, .Name z py] kt pt] (.Tuple [a, b] k2 pt2) X.env = pure (some [x, z])) :
    PS X (.Assign [.Tuple [.Name x px, .Name z py] kt pt] (.Tuple [a, b] k2 pt2) pos) (tS ct cl sg W lv sp (.par [i, j] es)) :=
  (ps_par hc hN hi hj hij hx hz ha hw).conseq fun D σ H ⟨y, c, s, h⟩ => par_go s h fun y1 c1 H1 f ds vs r' x1 s1 r1 hr k => by
    have l1 := setTs_len hr
    have l2 := r1.length
    match vs, l2.trans l1 with
    | [v, w], _ => exact ⟨v, w, rfl, k y1 _ H1 x1 (s1.setTs r1 hr)⟩
theorem s_par3 {i j l : Nat} {x z u : Str} {a b d : Expr} {es : List IE} {px py pz pt pos : Pos} {kt k2 : Nat} {pt2 : Pos} (hc : X.calm = true) (hN : X.N.Nodup) (hi : X.N[i]? = some x) (hj : X.N[j]? = some z) (hl : X.N[l]? = some u) (hij : i ≠ j) (hil : i ≠ l) (hjl : j ≠ l)
    (hx : X.env.scope.names.lookup x = some .local) (hz : X.env.scope.names.lookup z = some .local) (hu : X.env.scope.names.lookup u = some .local)
    (ha : PA X [a, b, d] (tAf ct cl sg W lv es)) (hw : swappedStores [.Tuple [.Name x px, .Name z py, .Name u pz] kt pt] (.Tuple [a, b, d] k2 pt2) X.env = pure (some [x, z, u])) :
    PS X (.Assign [.Tuple [.Name x px, .Name z py, .Name u pz] kt pt] (.Tuple [a, b, d] k2 pt2) pos) (tS ct cl sg W lv sp (.par [i, j, l] es)) :=
  (ps_par3 hc hN hi hj hl hij hil hjl hx hz hu ha hw).conseq fun D σ H ⟨y, c, s, h⟩ => par_go s h fun y1 c1 H1 f ds vs r' x1 s1 r1 hr k => by
    have l1 := setTs_len hr
    have l2 := r1.length
    match vs, l2.trans l1 with
    | [v, w, t], _ => exact ⟨v, w, t, rfl, k y1 _ H1 x1 (s1.setTs r1 hr)⟩
theorem s_parT {ts : List Nat} {es : List IE} {tes ves : List Expr} {kt k2 : Nat} {pt pt2 pos : Pos} (hg : ∀ f, PG X (.Tuple tes kt pt) (gT lv f ts false)) (ha : PA X ves (tAf ct cl sg W lv es)) (hl : ts.length ≤ 9) (hw : swappedStores [.Tuple tes kt pt] (.Tuple ves k2 pt2) X.env = pure none) :
    PS X (.Assign [.Tuple tes kt pt] (.Tuple ves k2 pt2) pos) (tS ct cl sg W lv sp (.par ts es)) := by
  have hg' : PG X (.Tuple tes kt pt) (fun v σ H Q => ∃ f, gT lv f ts false v σ H Q) := ⟨fun pins s1 σ H1 v u Q I r ⟨f, q⟩ => (hg f).run pins s1 σ H1 v u Q I r q⟩
  refine (ps_asg (pe_tup ha) hg' rfl hw rfl).conseq fun D σ H ⟨y, c, s, h⟩ => par_go s h fun y1 c1 H1 f ds vs r' x1 s1 r1 hr k => ?_
  have l1 := setTs_len hr
  have l2 := r1.length
  refine ⟨by rw [l2, l1]; exact Nat.le_trans hl (by rw [sizeLine_eq]; decide), fun p hp => ?_⟩
  obtain ⟨h1, h2, h3, h4, h5⟩ := s1.gnone hp
  have s2 := (s1.alloc (.tup vs) hp).freeze upd_same h1 h3 h4 h5
  have x2 : Ext y1 lv (y1.add lv p (.tup vs)) := Ext.add h1
  refine ⟨f, _, c1, .tup ds, r', s2, ?_, hr, fun σ' s3 _ => k _ σ' _ (x1.trans x2) s3⟩
  simp only [Rp]
  exact ⟨p, vs, rfl, regm_tup (by rw [addG_top (Nat.le_refl _), upd_same]), Rps.mono (Pre.refl _) (regm_mono s1.g (s1.g.add h1) (Gext.add h1)) _ _ r1⟩

theorem parO_go {ts : List Nat} {es : List (Bool × IE)} {Q : List V → Hp → Prop} {D : Ends} (s : SR y lv c σ H) (h : PostF (exS cl sg lv sp (.parO ts es) c) (XS ct W lv sp y) (NK lv sp y D.nx) (RK lv sp y D.rt))
    (k : ∀ vs H1, vs.length = ts.length → D.nx (setV σ ts vs) H1 → Q vs H1) : tAn ct cl sg W lv es σ H Q := by
  simp only [exS] at h
  refine ⟨y, c, s, (goS h).imp (fun _ _ z => z) fun rs c1 q y1 vs H1 x1 s1 r1 nd => ?_⟩
  rw [PostF.w, Post.ofOpt] at q
  obtain ⟨r', hr, q⟩ := q
  obtain ⟨l, s2⟩ := SR.setRs s1 r1 nd hr
  exact k vs H1 l (q y1 _ H1 (.of x1) s2)
theorem s_parO2 {i j : Nat} {x z : Str} {a b : Expr} {es : List (Bool × IE)} {px py pt pos : Pos} {kt k2 : Nat} {pt2 : Pos} (hc : X.calm = true) (hN : X.N.Nodup) (hi : X.N[i]? = some x) (hj : X.N[j]? = some z) (hij : i ≠ j) (hx : X.env.scope.names.lookup x = some .local) (hz : X.env.scope.names.lookup z = some .local)
    (ha : PA X [a, b] (tAn ct cl sg W lv es)) (hw : swappedStores [.Tuple [.Name x px, .Name z py] kt pt] (.Tuple [a, b] k2 pt2) X.env = pure (some [x, z])) :
    PS X (.Assign [.Tuple [.Name x px, .Name z py] kt pt] (.Tuple [a, b] k2 pt2) pos) (tS ct cl sg W lv sp (.parO [i, j] es)) :=
  (ps_par hc hN hi hj hij hx hz ha hw).conseq fun D σ H ⟨y, c, s, h⟩ => parO_go s h fun vs H1 l q => by
    match vs, l with
    | [v, w], _ => exact ⟨v, w, rfl, q⟩
theorem s_parO3 {i j l : Nat} {x z u : Str} {a b d : Expr} {es : List (Bool × IE)} {px py pz pt pos : Pos} {kt k2 : Nat} {pt2 : Pos} (hc : X.calm = true) (hN : X.N.Nodup) (hi : X.N[i]? = some x) (hj : X.N[j]? = some z) (hl : X.N[l]? = some u) (hij : i ≠ j) (hil : i ≠ l) (hjl : j ≠ l)
    (hx : X.env.scope.names.lookup x = some .local) (hz : X.env.scope.names.lookup z = some .local) (hu : X.env.scope.names.lookup u = some .local)
    (ha : PA X [a, b, d] (tAn ct cl sg W lv es)) (hw : swappedStores [.Tuple [.Name x px, .Name z py, .Name u pz] kt pt] (.Tuple [a, b, d] k2 pt2) X.env = pure (some [x, z, u])) :
    PS X (.Assign [.Tuple [.Name x px, .Name z py, .Name u pz] kt pt] (.Tuple [a, b, d] k2 pt2) pos) (tS ct cl sg W lv sp (.parO [i, j, l] es)) :=
  (ps_par3 hc hN hi hj hl hij hil hjl hx hz hu ha hw).conseq fun D σ H ⟨y, c, s, h⟩ => parO_go s h fun vs H1 l q => by
    match vs, l with
    | [v, w, t], _ => exact ⟨v, w, t, rfl, q⟩

/-! ### loops -/
theorem forGo_then {one : D → C → Fw} {x : D} {xs : List D} {c : C} : forGo one (x :: xs) c = (one x c).then fun c => forGo one xs c := by
  simp only [forGo]
  cases one x c <;> rfl
theorem whl_then {test : C → Out Bool} {body : C → Fw} {n : Nat} {c : C} : whlGo test body (n + 1) c = (test c).w fun k c => if k then (body c).then fun c => whlGo test body n c else .nx c := by
  simp only [whlGo]
  cases test c with
  | ok k c =>
    cases k with
    | true => simp only [Out.w, if_true]; cases body c <;> rfl
    | false => rfl
  | exc e c => rfl
  | stuck => rfl
theorem s_for {tg iter : Expr} {body : List Stmt} {ts : List Nat} {one : Bool} {it : IT} {ib : List IS} {pos : Pos} (hp : PassesOwn (model X.prog X.w) X.A X.env X.xe) (hc : X.calm = true) (hi : PI X tg iter (tI ct cl sg W lv it)) (hg : ∀ f, PG X tg (gT lv f ts one)) (hb : PSs X body (tL ct cl sg W lv false ib))
    (hs : ∀ x, foldedSetIterable iter X.env x = pure x) : PS X (.For tg iter body [] pos) (tS ct cl sg W lv sp (.for ts one it ib)) := by
  have hg' : PG X tg (fun v σ H Q => ∃ f, gT lv f ts one v σ H Q) := ⟨fun pins s1 σ H1 v u Q I r ⟨f, q⟩ => (hg f).run pins s1 σ H1 v u Q I r q⟩
  refine (ps_for hp hc hi hg' hb hs).conseq fun D σ H ⟨y, c, s, h⟩ => ?_
  simp only [exS] at h
  refine ⟨y, c, s, (goS h).imp (fun _ _ z => z) fun fd c0 q0 y0 H1 J x0 s0 iok => ?_⟩
  obtain ⟨f, xs⟩ := fd
  obtain ⟨G, Y, w, hG, hY⟩ := iok
  dsimp only at q0 w hY
  generalize hone : (fun (x : Sd.D) (c : C) => (ofOpt (setTg f ts one x c.r) c).w fun r c => exL cl sg lv false ib { c with r := r }) = one' at q0
  refine for_it (g := fun v σ H Q => ∃ f, gT lv f ts one v σ H Q) (tb := tL ct cl sg W lv false ib) (D := D) w (Pv := fun i σ' H' => ∃ y' c', Ext y0 lv y' ∧ SR y' lv c' σ' H' ∧ PostF (forGo one' (xs.drop i) c') (XS ct W lv sp y) (NK lv sp y D.nx) (RK lv sp y D.rt)) ⟨y0, c0, Ext.refl, s0, q0⟩ ?_ ?_ ?_
  · rintro i σ' H' hi ⟨y', c', x', s', q⟩
    exact hG _ (x'.g.up.trans s'.top)
  · rintro i x σ' Hc H' hi ⟨y', c', x', s', q⟩ hy
    obtain ⟨d, hd, item⟩ := hY i Hc x H' hi (x'.g.up.trans s'.top) hy
    obtain ⟨y3, x3, s3, r3⟩ := ItOk.step (y := y0) (y2 := y') s0.g x'.s x'.g s' item
    rw [drop_cons hd, forGo_then, PostF.then] at q
    have e9 : one' d c' = (ofOpt (setTg f ts one d c'.r) c').w fun r c => exL cl sg lv false ib { c with r := r } := by rw [← hone]
    rw [e9, PostF.w, Post.ofOpt] at q
    obtain ⟨r', hr', q⟩ := q
    have x03 := x'.trans x3
    refine ⟨f, y3, c', d, r', s3, r3, hr', fun σ2 s4 _ => ⟨y3, _, s4, q.imp (fun e c z => ?_) (fun c5 z y5 σ5 H5 x5 s5 => ⟨y5, c5, x03.trans x5.ext, s5, z⟩) (fun f d c z => ?_)⟩⟩
    · exact (XS.down e c (XS.ext (.of (x0.trans x03)) e c z))
    · exact (RK.down f d c (RK.ext (.of (x0.trans x03)) f d c z))
  · rintro σ' H' ⟨y', c', x', s', q⟩
    rw [List.drop_length] at q
    exact q y' σ' H' (.of (x0.trans x')) s'
theorem s_while {e : Expr} {body : List Stmt} {ie : IE} {ib : List IS} {pos : Pos} (hp : PassesOwn (model X.prog X.w) X.A X.env X.xe) (he : PT X e (tT ct cl sg W lv ie)) (hb : PSs X body (tL ct cl sg W lv false ib)) : PS X (.While e body [] pos) (tS ct cl sg W lv sp (.while ie ib)) :=
  (ps_while hp he hb).conseq fun D σ H ⟨y, c, s, h⟩ => by
    simp only [exS] at h
    generalize fuel = n at h
    refine ⟨fun m σ' H' => ∃ y' c', Ext y lv y' ∧ SR y' lv c' σ' H' ∧ PostF (whlGo (fun c => (evE cl sg lv ie c).t lv) (fun c => exL cl sg lv false ib c) m c') (XS ct W lv sp y) (NK lv sp y D.nx) (RK lv sp y D.rt), ⟨n, y, c, Ext.refl, s, h⟩, ?_⟩
    rintro m σ' H' ⟨y', c', x', s', q⟩
    cases m with
    | zero => exact q.elim
    | succ m =>
      rw [whl_then] at q
      refine ⟨y', c', s', (goS q).imp (XW.ext x') fun k c2 q2 y2 H2 x2 s2 => ?_⟩
      cases k with
      | false =>
        simp only [Bool.false_eq_true, if_false] at q2 ⊢
        exact q2 y2 σ' H2 (.of (x'.trans x2)) s2
      | true =>
        simp only [if_true] at q2 ⊢
        rw [PostF.then] at q2
        have x02 := x'.trans x2
        refine ⟨fun σ' H' => ∃ y' c', Ext y lv y' ∧ SR y' lv c' σ' H' ∧ PostF (whlGo (fun c => (evE cl sg lv ie c).t lv) (fun c => exL cl sg lv false ib c) m c') (XS ct W lv sp y) (NK lv sp y D.nx) (RK lv sp y D.rt), fun σ3 H3 n3 => ⟨m, Nat.lt_succ_self _, n3⟩, y2, c2, s2, q2.imp (fun e c z => ?_) (fun c5 z y5 σ5 H5 x5 s5 => ⟨y5, c5, x02.trans x5.ext, s5, z⟩) fun f d c z => ?_⟩
        · exact XS.down e c (XS.ext (.of x02) e c z)
        · exact RK.down f d c (RK.ext (.of x02) f d c z)
end
end Sd

/-! Sd22: regions; every statement that is served. -/
namespace Sd
open PySem PySem.Spec PyProof.Rows L2

/-! ### a region begins, ends -/
section
variable {lv : Nat} {y : Dy} {c : C} {σ : L2.St} {H : Hp}
theorem regm_up {G : Nat → Hp} {lv : Nat} {f : Fl} (k : Gok G lv) : regm G (lv + 1) f = regm G lv f := by
  unfold regm
  rw [k.flat (lv + 1) (by omega)]
theorem SR.up (s : SR y lv c σ H) : SR y (lv + 1) c σ H := by
  have e : y.G (lv + 1) = y.G lv := s.g.flat (lv + 1) (by omega)
  refine ⟨by have := s.pos; omega, s.zb, ⟨s.g.mono, fun n h => by rw [e]; exact s.g.flat n (by omega)⟩, by rw [e]; exact s.top, s.prot, s.old, fun a o h => s.fresh a o (by rw [← e]; exact h), fun i sl hi => ?_, s.inj, ⟨s.str.len, s.str.at_, by rw [e]; exact s.str.off, s.str.nd⟩, s.len⟩
  have q := s.slots i sl hi
  cases sl with
  | un => trivial
  | sh f d => obtain ⟨v, e1, e2⟩ := q; exact ⟨v, e1, by rw [regm_up s.g]; exact e2⟩
  | ow f d =>
    obtain ⟨p, e1, o1, o2, o3, o4, o5⟩ := q
    refine ⟨p, e1, by rw [e]; exact o1, o2, o3, o4, ?_⟩
    cases d <;> first | exact o5.elim | (obtain ⟨vs, h1, h2⟩ := o5; exact ⟨vs, h1, by rw [regm_up s.g]; exact h2⟩)
/-- the region lv + 1 goes into lv -/
abbrev Dy.fold (y : Dy) (lv : Nat) : Dy := { y with G := fun n => if n < lv then y.G n else y.G (lv + 1) }
theorem regm_fold {G : Nat → Hp} {f : Fl} (h1 : 1 ≤ lv) (k : Gok G (lv + 1)) : Sub (regm G (lv + 1) f) (regm (fun n => if n < lv then G n else G (lv + 1)) lv (f.clamp lv)) := fun a o h => by
  obtain ⟨h0, h2⟩ := regm_out h
  have h0' : (fun n => if n < lv then G n else G (lv + 1)) lv a = some o := by simp [h0]
  rcases h2 with ⟨xs, rfl⟩ | ⟨h2, h3⟩
  · exact regm_tup h0'
  · unfold Fl.clamp
    by_cases hc : f.lo > f.hi
    · exfalso
      rcases h2 with h2 | h2
      · omega
      · exact h3 ((k.mono f.hi (f.lo - 1) (by omega)).none h2)
    · rw [if_neg hc]
      refine regm_in h0' ?_ ?_
      · rcases h2 with h2 | h2
        · exact .inl (by show min f.lo lv = 0; omega)
        · by_cases hz : min f.lo lv = 0
          · exact .inl hz
          · right
            show (if min f.lo lv - 1 < lv then G (min f.lo lv - 1) else G (lv + 1)) a = none
            rw [if_pos (by omega)]
            exact (k.mono (min f.lo lv - 1) (f.lo - 1) (by omega)).none h2
      · show (if min f.hi lv < lv then G (min f.hi lv) else G (lv + 1)) a ≠ none
        split
        · rename_i hl
          rw [show min f.hi lv = f.hi by omega]; exact h3
        · rw [h0]; exact fun z => by cases z
theorem SR.fold (h1 : 1 ≤ lv) (s : SR y (lv + 1) c σ H) : SR (y.fold lv) lv (clampC lv c) σ H := by
  have e : (y.fold lv).G lv = y.G (lv + 1) := by show (if lv < lv then y.G lv else y.G (lv + 1)) = _; rw [if_neg (by omega)]
  have e0 : (y.fold lv).G 0 = y.G 0 := by show (if 0 < lv then y.G 0 else y.G (lv + 1)) = _; rw [if_pos (by omega)]
  have kk : Gok (y.fold lv).G lv := by
    refine ⟨fun m n h => ?_, fun n h => ?_⟩
    · show Sub (if m < lv then y.G m else y.G (lv + 1)) (if n < lv then y.G n else y.G (lv + 1))
      split <;> split
      · exact s.g.mono m n h
      · exact s.g.mono m (lv + 1) (by omega)
      · omega
      · exact Sub.refl _
    · show (if n < lv then y.G n else y.G (lv + 1)) = _
      rw [if_neg (by omega), e]
  have slot : ∀ (i : Nat) sl, (clampC lv c).r[i]? = some sl → ∃ s0, c.r[i]? = some s0 ∧ sl = clampS lv s0 := fun i sl h => by
    have h : (c.r.map (clampS lv))[i]? = some sl := h
    rw [List.getElem?_map] at h
    cases h' : c.r[i]? with
    | none => rw [h'] at h; cases h
    | some s0 => rw [h'] at h; cases h; exact ⟨s0, rfl, rfl⟩
  refine ⟨h1, s.zb, kk, by rw [e]; exact s.top, s.prot, s.old, fun a o h => ?_, fun i sl hi => ?_, fun i j p h2 h3 => ?_, ⟨s.str.len, s.str.at_, fun q hq => ?_, s.str.nd⟩, ?_⟩
  · rw [e] at h; rw [e0]; exact s.fresh a o h
  · obtain ⟨s0, h2, rfl⟩ := slot i sl hi
    have q := s.slots i s0 h2
    cases s0 with
    | un => trivial
    | sh f d => obtain ⟨v, e1, e2⟩ := q; exact ⟨v, e1, Rp.mono (Pre.refl _) (regm_fold h1 s.g) _ _ e2⟩
    | ow f d =>
      obtain ⟨p, e1, o1, o2, o3, o4, o5⟩ := q
      refine ⟨p, e1, by rw [e]; exact o1, o2, o3, o4, ?_⟩
      cases d <;> first | exact o5.elim | (obtain ⟨vs, h1', h2'⟩ := o5; exact ⟨vs, h1', Rps.mono (Pre.refl _) (regm_fold h1 s.g) _ _ h2'⟩)
  · have bk : ∀ {i}, OwnAt (clampC lv c) σ i p → OwnAt c σ i p := fun {i} ⟨⟨f, d, h⟩, h'⟩ => by
      obtain ⟨s0, h2, e2⟩ := slot i _ h
      cases s0 <;> first | (cases e2; done) | exact ⟨⟨_, _, h2⟩, h'⟩
    exact s.inj i j p (bk h2) (bk h3)
  · rw [e]; exact s.str.off q hq
  · show (c.r.map (clampS lv)).length = _
    rw [List.length_map]; exact s.len
theorem ExtS.fold {sp : Bool} {y' : Dy} (k : Gok y'.G (lv + 1)) (x : ExtS true y (lv + 1) y') : ExtS sp y lv (y'.fold lv) := by
  refine ⟨x.z, x.b, fun n h => ?_, x.s, fun _ => ?_⟩
  · show (if n < lv then y'.G n else y'.G (lv + 1)) = _
    rw [if_pos h]; exact x.low n (by omega)
  · show Sub (y.G lv) (if lv < lv then y'.G lv else y'.G (lv + 1))
    rw [if_neg (by omega), ← x.low lv (by omega)]
    exact k.mono lv (lv + 1) (by omega)
end
section
variable {X : Cx} {ct : Ct} {cl : Caller} {sg : Sig} {W : WX} {lv : Nat} {sp : Bool} {y y' : Dy} {c : C} {σ : L2.St} {H : Hp}
theorem l_scope {ss : List Stmt} {is : List IS} (h : PSs X ss (tL ct cl sg W (lv + 1) true is)) : PSs X ss (tL ct cl sg W lv sp [.scope is]) :=
  h.conseq fun D σ H ⟨y, c, s, h⟩ => by
    simp only [exL, exS] at h
    rw [PostF.then] at h
    refine ⟨y, c, s.up, ?_⟩
    have h1 := s.pos
    cases eo : exL cl sg (lv + 1) true is c with
    | stuck => rw [eo] at h; exact h.elim
    | nx c' =>
      rw [eo] at h
      have h : NK lv sp y D.nx (clampC lv c') := h
      exact fun y' σ' H' x s' => h _ σ' H' (x.fold s'.g) (s'.fold h1)
    | rt f d c' =>
      rw [eo] at h
      have h : RK lv sp y D.rt (f.clamp lv) d (clampC lv c') := h
      exact fun y' σ' v H' x s' r => h _ σ' v H' (x.fold s'.g) (s'.fold h1) (Rp.mono (Pre.refl _) (regm_fold h1 s'.g) _ _ r)
    | exc e c' =>
      rw [eo] at h
      have h : XS ct W lv sp y { e with fl := e.fl.clamp lv } (clampC lv c') := h
      exact fun y' σ' H' cv d x s' r => h _ σ' H' cv d (x.fold s'.g) (s'.fold h1) (by
        obtain ⟨C0, fld, dx, v, b1, b2, b3, b4, b5⟩ := r
        exact ⟨C0, fld, dx, v, b1, b2, b3, b4, Rp.mono (Pre.refl _) (regm_fold h1 s'.g) _ _ b5⟩)
end

/-! ### every statement -/
theorem SR.wipe1 {y : Dy} {lv : Nat} {c : C} {σ : L2.St} {H : Hp} {i : Nat} (s : SR y lv c σ H) : SR y lv { c with r := c.r.set i .un } σ H := by
  have z := s.forget (i := i) (σ.getD i none)
  have e : σ.set i (σ.getD i none) = σ := by
    refine List.ext_getElem? fun j => ?_
    rw [List.getElem?_set]
    by_cases e : i = j
    · subst e
      by_cases h : i < σ.length
      · rw [if_pos rfl, if_pos h, List.getD_eq_getElem?_getD, List.getElem?_eq_getElem h]; rfl
      · rw [if_pos rfl, if_neg h, List.getElem?_eq_none (by omega)]
    · rw [if_neg e]
  rw [e] at z
  exact z
theorem SR.wipeO {y : Dy} {lv : Nat} {c : C} {σ : L2.St} {H : Hp} (s : SR y lv c σ H) : ∀ ws : List Nat, SR y lv { c with r := wipeR c.r ws } σ H
  | [] => s
  | w :: ws => (s.wipeO ws).wipe1 (i := w)
theorem exL_snoc {cl : Caller} {sg : Sig} {lv : Nat} {sp : Bool} {ws : List Nat} : ∀ {is : List IS} {c : C}, exL cl sg lv sp (is ++ [.wipe ws]) c = (exL cl sg lv sp is c).then fun c => .nx { c with r := wipeR c.r ws }
  | [], c => by simp only [List.nil_append, exL, exS]; rfl
  | i :: is, c => by
    simp only [List.cons_append, exL]
    cases exS cl sg lv sp i c <;> simp only [Fw.then] <;> exact exL_snoc
theorem l_wipe {X : Cx} {ct : Ct} {cl : Caller} {sg : Sig} {W : WX} {lv : Nat} {sp : Bool} {ss : List Stmt} {is : List IS} {a : Ann} {l : Nat} (h : PSs X ss (tL ct cl sg W lv sp is)) : PSs X ss (tL ct cl sg W lv sp (wpB a l is)) := by
  unfold wpB
  split
  · rename_i ws _
    refine h.conseq fun D σ H ⟨y, c, sr, k⟩ => ⟨y, c, sr, ?_⟩
    rw [exL_snoc, PostF.then] at k
    exact k.imp (fun _ _ z => z) (fun c z => fun y' σ' H' x s => z y' σ' H' x (s.wipeO ws)) (fun _ _ _ z => z)
  · exact h
structure DefEnv (X : Cx) (us : List Str) (a : Ann) (ct : Ct) (cl : Caller) (sg : Sig) (k : Nat) (W : WX) (sc : Scope) : Prop where
  e : EnvOk X us a ct cl sg k
  eq : X.env.scope = sc
  kind : sc.kind = .function
  tg : TgEnv X sc a.N
  pass : PassesOwn (model X.prog X.w) X.A X.env X.xe
  tk : Takes X W
  spoil : Gl X "_law_spoilt" → ∀ (lv : Nat) (x : Expr) (i : IE) (p pos pos2 : Pos), isStar x = false → PE X x (tE ct cl sg W lv i) → PS X (.Expr (.Call (.Name "_law_spoilt" p) [x] [] pos) pos2) (tS ct cl sg W lv true (.spoil i))
section
variable {us : List Str} {a : Ann} {ct : Ct} {cl : Caller} {sg : Sig} {k : Nat} {X : Cx} {W : WX} {sc : Scope} (E : DefEnv X us a ct cl sg k W sc)
include E
theorem d_ser (lv n : Nat) (e : Expr) : Ser X ct cl sg W lv e (cE us a n sc e) := good n X W lv sc e E.e E.eq E.tk
theorem d_I (lv n : Nat) (tg : Expr) (tup : Bool) (e : Expr) (ht : tup = true → ∃ es j q, tg = .Tuple es j q) : PI X tg e (tI ct cl sg W lv (cI us a n sc tup e)) := g_I E.e E.eq E.tk (fun m _ => good m) tg tup e ht
theorem st_name (lv n : Nat) (sp own : Bool) (x : Str) (v : Expr) (px pos : Pos) (i : Nat) (hs : isSto sc x = true) (hi : slotOf a.N x = some i) : PS X (.Assign [.Name x px] v pos) (tS ct cl sg W lv sp (.asg i own (cE us a n sc v))) := by
  obtain ⟨l1, l2⟩ := E.tg.sto x hs
  have hN : X.N[i]? = some x := by rw [E.e.n]; exact slotOf_get hi
  have nd : X.N.Nodup := by rw [E.e.n]; exact E.e.nd
  have plain : swapsWith v (some (.Name x px)) pos.line X.env = pure false → PS X (.Assign [.Name x px] v pos) (tS ct cl sg W lv sp (.asg i own (cE us a n sc v))) := fun h =>
    s_name' (ps_set nd hN l1 (d_ser E lv n v).pe h l2)
  cases v <;> first | exact plain rfl | skip
  · -- a list comprehension
    rename_i e gs bs q
    have hk : X.env.scope.kind = .function := by rw [E.eq]; exact E.kind
    have hb : X.env.blockKind = .function := by unfold Env.blockKind; rw [hk]; rfl
    have sw : ∃ b : Bool, swapsWith (.ListComp e gs bs q) (some (.Name x px)) pos.line X.env = pure b ∧ (b = true → X.env.scope.names.lookup x = some .local) := by
      refine ⟨X.env.blockKind == .function && X.env.kindOf x == some .local && px.line == (Expr.ListComp e gs bs q).pos.line && !(bs.names.any fun (n, k) => n == x && (k == .local || k == .cell)), rfl, fun h => ?_⟩
      simp only [Bool.and_eq_true, beq_iff_eq] at h
      exact h.1.1.2
    obtain ⟨b, hsw, hl⟩ := sw
    cases b with
    | false => exact plain hsw
    | true =>
      cases n with
      | zero =>
        simp only [cE]
        exact ⟨fun pins s σ H D I ⟨y, c, sr, h⟩ => by simp only [exS, evE] at h; exact h.elim⟩
      | succ n =>
        have nv : cE us a (n + 1) sc (.ListComp e gs bs q) = .never → PS X (.Assign [.Name x px] (.ListComp e gs bs q) pos) (tS ct cl sg W lv sp (.asg i own (cE us a (n + 1) sc (.ListComp e gs bs q)))) := fun h => by
          rw [h]
          exact ⟨fun pins s σ H D I ⟨y, c, sr, h⟩ => by simp only [exS, evE] at h; exact h.elim⟩
        match gs, hsw, nv with
        | [⟨tg, it, ifs, ac⟩], hsw, nv =>
          by_cases hac : ac = 0
          case neg => exact nv (by simp [cE, hac])
          subst hac
          have e1 : cE us a (n + 1) sc (.ListComp e [⟨tg, it, ifs, 0⟩] bs q) = (match tgOf bs a.N tg with
              | some (ts, one) => if blkC a.N sc bs (ownOf a.N ts) && decide (ifs.length ≤ 1) && !isSet it then .lc (cE us a n (relS bs sc) e) ts one (cI us a n sc (!one) it) (ifs.map (cE us a n (relS bs sc))) else .never
              | none => .never) := by
            simp only [cE]
            all_goals (cases tgOf bs a.N tg <;> rfl)
          cases ht : tgOf bs a.N tg with
          | none => exact nv (by rw [e1, ht])
          | some p =>
            obtain ⟨ts, one⟩ := p
            by_cases hc : (blkC a.N sc bs (ownOf a.N ts) && decide (ifs.length ≤ 1) && !isSet it) = true
            case neg => exact nv (by rw [e1, ht]; exact if_neg hc)
            have e2 : cE us a (n + 1) sc (.ListComp e [⟨tg, it, ifs, 0⟩] bs q) = .lc (cE us a n (relS bs sc) e) ts one (cI us a n sc (!one) it) (ifs.map (cE us a n (relS bs sc))) := by rw [e1, ht]; exact if_pos hc
            rw [e2]
            exact s_name' (s_setLc (lc_ok E.e E.eq E.tk (fun m _ => good m) ht hc) hN (hl rfl) hsw)
        | [], _, nv => exact nv (by simp only [cE])
        | _ :: _ :: _, _, nv => exact nv (by simp only [cE])
  all_goals
    cases n <;> exact ⟨fun pins s σ H D I ⟨y, c, sr, h⟩ => by simp only [cE, exS, evE] at h; exact h.elim⟩
theorem d_g (f : Fl) {lv : Nat} {tg : Expr} {ts : List Nat} {one : Bool} (h : tgOf sc a.N tg = some (ts, one)) : PG X tg (gT lv f ts one) := g_tg E.e.calm E.tg h
theorem d_F (lv n : Nat) (es : List Expr) (h : es.any isStar = false) : PA X es (tAf ct cl sg W lv (es.map (cE us a n sc))) := a_mapF (fun e => (d_ser E lv n e).pe) h
theorem locN_of {x : Str} (h : locN sc x = true) : X.env.scope.names.lookup x = some .local := by
  rw [E.eq]
  unfold locN at h
  split at h
  · assumption
  · cases h
theorem tgN_of {x : Str} {p : Pos} {i : Nat} (h : tgN sc a.N (.Name x p) = some i) : X.N[i]? = some x := by
  simp only [tgN] at h
  split at h
  · rw [E.e.n]; exact slotOf_get h
  · cases h
theorem st_par (lv n : Nat) (sp : Bool) (tes ves : List Expr) (k1 k2 : Nat) (p1 p2 pos : Pos) (ts : List Nat) (ht : tes.mapM (tgN sc a.N) = some ts) (hv : ves.any isStar = false) (hp : parOk sc a.N tes ves = true) :
    PS X (.Assign [.Tuple tes k1 p1] (.Tuple ves k2 p2) pos) (tS ct cl sg W lv sp (.par ts (ves.map (cE us a n sc)))) := by
  have hk : X.env.scope.kind = .function := by rw [E.eq]; exact E.kind
  have nd : X.N.Nodup := by rw [E.e.n]; exact E.e.nd
  have ne : ∀ {i j : Nat} {x z : Str}, X.N[i]? = some x → X.N[j]? = some z → x ≠ z → i ≠ j := fun {i j x z} h1 h2 h3 e => by
    subst e
    rw [h1] at h2
    exact h3 (Option.some.inj h2)
  have hF := d_F E lv n ves hv
  unfold parOk at hp
  split at hp
  · rename_i hsw
    refine s_parT (fun f => d_g E f (one := false) (by simp only [tgOf, ht]; rfl)) hF ?_ (swap_eq hk E.eq hsw)
    have hl : tes.length ≤ 9 := by simpa using hp
    have : ts.length = tes.length := by
      clear hp hsw hF hv hl
      induction tes generalizing ts with
      | nil => simp only [List.mapM_nil, Option.pure_def, Option.some.injEq] at ht; subst ht; rfl
      | cons e es ih =>
        rw [List.mapM_cons] at ht
        cases e1 : tgN sc a.N e with
        | none => rw [e1] at ht; simp at ht
        | some i =>
          cases e2 : es.mapM (tgN sc a.N) with
          | none => rw [e1, e2] at ht; simp at ht
          | some is =>
            rw [e1, e2] at ht
            simp at ht
            subst ht
            simp [ih _ e2]
    omega
  · rename_i ns hsw
    have two : ∀ {e1 e2 : Expr} {ts : List Nat}, [e1, e2].mapM (tgN sc a.N) = some ts → ∃ i j, tgN sc a.N e1 = some i ∧ tgN sc a.N e2 = some j ∧ ts = [i, j] := fun {e1 e2 ts} h => by
      cases h1 : tgN sc a.N e1 with
      | none => simp [h1] at h
      | some i =>
        cases h2 : tgN sc a.N e2 with
        | none => simp [h1, h2] at h
        | some j => simp [h1, h2] at h; exact ⟨i, j, rfl, rfl, h.symm⟩
    have three : ∀ {e1 e2 e3 : Expr} {ts : List Nat}, [e1, e2, e3].mapM (tgN sc a.N) = some ts → ∃ i j l, tgN sc a.N e1 = some i ∧ tgN sc a.N e2 = some j ∧ tgN sc a.N e3 = some l ∧ ts = [i, j, l] := fun {e1 e2 e3 ts} h => by
      cases h1 : tgN sc a.N e1 with
      | none => simp [h1] at h
      | some i =>
        cases h2 : tgN sc a.N e2 with
        | none => simp [h1, h2] at h
        | some j =>
          cases h3 : tgN sc a.N e3 with
          | none => simp [h1, h2, h3] at h
          | some l => simp [h1, h2, h3] at h; exact ⟨i, j, l, rfl, rfl, rfl, h.symm⟩
    simp only [Bool.and_eq_true] at hp
    obtain ⟨hp, hl⟩ := hp
    split at hp
    · rename_i x px z pz
      simp only [Bool.and_eq_true, decide_eq_true_eq, Bool.not_eq_true', decide_eq_false_iff_not] at hp
      obtain ⟨⟨⟨rfl, l1⟩, l2⟩, l3⟩ := hp
      obtain ⟨i, j, h1, h2, rfl⟩ := two ht
      have q1 := tgN_of E h1
      have q2 := tgN_of E h2
      match ves, hl, hF, hsw with
      | [v, w], _, hF, hsw => exact s_par2 E.e.calm nd q1 q2 (ne q1 q2 l3) (locN_of E l1) (locN_of E l2) hF (swap_eq hk E.eq hsw)
    · rename_i x px z pz u pu
      simp only [Bool.and_eq_true, decide_eq_true_eq, Bool.not_eq_true', decide_eq_false_iff_not] at hp
      obtain ⟨⟨⟨⟨⟨⟨rfl, l1⟩, l2⟩, l3⟩, l4⟩, l5⟩, l6⟩ := hp
      obtain ⟨i, j, l, h1, h2, h3, rfl⟩ := three ht
      have q1 := tgN_of E h1
      have q2 := tgN_of E h2
      have q3 := tgN_of E h3
      match ves, hl, hF, hsw with
      | [v, w, r], _, hF, hsw => exact s_par3 E.e.calm nd q1 q2 q3 (ne q1 q2 l4) (ne q1 q3 l5) (ne q2 q3 l6) (locN_of E l1) (locN_of E l2) (locN_of E l3) hF (swap_eq hk E.eq hsw)
    · cases hp
  · cases hp
theorem st_parO (lv n : Nat) (sp : Bool) (tes ves : List Expr) (k1 k2 : Nat) (p1 p2 pos : Pos) (ts : List Nat) (ht : tes.mapM (tgN sc a.N) = some ts) (hv : ves.any isStar = false) (hp : parOk sc a.N tes ves = true) (hsO : swO sc tes ves = true) (hlen : tes.length = ves.length) :
    PS X (.Assign [.Tuple tes k1 p1] (.Tuple ves k2 p2) pos) (tS ct cl sg W lv sp (.parO ts ((ownFl a.M tes).zip (ves.map (cE us a n sc))))) := by
  have hk : X.env.scope.kind = .function := by rw [E.eq]; exact E.kind
  have nd : X.N.Nodup := by rw [E.e.n]; exact E.e.nd
  have ne : ∀ {i j : Nat} {x z : Str}, X.N[i]? = some x → X.N[j]? = some z → x ≠ z → i ≠ j := fun {i j x z} h1 h2 h3 e => by
    subst e
    rw [h1] at h2
    exact h3 (Option.some.inj h2)
  have hF : PA X ves (tAn ct cl sg W lv ((ownFl a.M tes).zip (ves.map (cE us a n sc)))) := a_mapN (fun e => (d_ser E lv n e).pe) hv (by unfold ownFl; rw [List.length_map]; exact hlen)
  unfold parOk at hp
  split at hp
  · rename_i hsw
    unfold swO at hsO
    rw [hsw] at hsO
    cases hsO
  · rename_i ns hsw
    have two : ∀ {e1 e2 : Expr} {ts : List Nat}, [e1, e2].mapM (tgN sc a.N) = some ts → ∃ i j, tgN sc a.N e1 = some i ∧ tgN sc a.N e2 = some j ∧ ts = [i, j] := fun {e1 e2 ts} h => by
      cases h1 : tgN sc a.N e1 with
      | none => simp [h1] at h
      | some i =>
        cases h2 : tgN sc a.N e2 with
        | none => simp [h1, h2] at h
        | some j => simp [h1, h2] at h; exact ⟨i, j, rfl, rfl, h.symm⟩
    have three : ∀ {e1 e2 e3 : Expr} {ts : List Nat}, [e1, e2, e3].mapM (tgN sc a.N) = some ts → ∃ i j l, tgN sc a.N e1 = some i ∧ tgN sc a.N e2 = some j ∧ tgN sc a.N e3 = some l ∧ ts = [i, j, l] := fun {e1 e2 e3 ts} h => by
      cases h1 : tgN sc a.N e1 with
      | none => simp [h1] at h
      | some i =>
        cases h2 : tgN sc a.N e2 with
        | none => simp [h1, h2] at h
        | some j =>
          cases h3 : tgN sc a.N e3 with
          | none => simp [h1, h2, h3] at h
          | some l => simp [h1, h2, h3] at h; exact ⟨i, j, l, rfl, rfl, rfl, h.symm⟩
    simp only [Bool.and_eq_true] at hp
    obtain ⟨hp, hl⟩ := hp
    split at hp
    · rename_i x px z pz
      simp only [Bool.and_eq_true, decide_eq_true_eq, Bool.not_eq_true', decide_eq_false_iff_not] at hp
      obtain ⟨⟨⟨rfl, l1⟩, l2⟩, l3⟩ := hp
      obtain ⟨i, j, h1, h2, rfl⟩ := two ht
      have q1 := tgN_of E h1
      have q2 := tgN_of E h2
      match ves, hl, hF, hsw with
      | [v, w], _, hF, hsw => exact s_parO2 E.e.calm nd q1 q2 (ne q1 q2 l3) (locN_of E l1) (locN_of E l2) hF (swap_eq hk E.eq hsw)
    · rename_i x px z pz u pu
      simp only [Bool.and_eq_true, decide_eq_true_eq, Bool.not_eq_true', decide_eq_false_iff_not] at hp
      obtain ⟨⟨⟨⟨⟨⟨rfl, l1⟩, l2⟩, l3⟩, l4⟩, l5⟩, l6⟩ := hp
      obtain ⟨i, j, l, h1, h2, h3, rfl⟩ := three ht
      have q1 := tgN_of E h1
      have q2 := tgN_of E h2
      have q3 := tgN_of E h3
      match ves, hl, hF, hsw with
      | [v, w, r], _, hF, hsw => exact s_parO3 E.e.calm nd q1 q2 q3 (ne q1 q2 l4) (ne q1 q3 l5) (ne q2 q3 l6) (locN_of E l1) (locN_of E l2) (locN_of E l3) hF (swap_eq hk E.eq hsw)
    · cases hp
  · cases hp
theorem st_all : ∀ (n lv : Nat) (sp : Bool), (∀ st, PS X st (tS ct cl sg W lv sp (cS us a n sc st))) ∧ ∀ ss, PSs X ss (tL ct cl sg W lv sp (cL us a n sc ss))
  | 0, lv, sp => ⟨fun st => by simp only [cS]; exact s_never, fun ss => by simp only [cL]; exact l_never⟩
  | n + 1, lv, sp => by
    have ihS : ∀ lv sp st, PS X st (tS ct cl sg W lv sp (cS us a n sc st)) := fun lv sp => (st_all n lv sp).1
    have ihL : ∀ lv sp ss, PSs X ss (tL ct cl sg W lv sp (cL us a n sc ss)) := fun lv sp => (st_all n lv sp).2
    have ser : ∀ lv e, Ser X ct cl sg W lv e (cE us a n sc e) := fun lv e => d_ser E lv n e
    refine ⟨fun st => ?_, fun ss => ?_⟩
    · cases st with
      | Expr e p =>
        simp only [cS]
        split
        · rename_i z hz
          cases e <;> first | (simp [strOf] at hz; done) | skip
          rename_i c j q
          cases c <;> first | (simp [strOf] at hz; done) | exact s_doc
        · split
          · rename_i x hx
            unfold spOf at hx
            split at hx
            · rename_i f q x' q2
              split at hx
              · rename_i hf
                cases hx
                obtain ⟨rfl, h2, h3⟩ := hf
                cases sp with
                | true => exact E.spoil (gl_of E.eq h2) lv _ _ _ _ _ h3 (ser lv _).pe
                | false => exact ⟨fun pins s σ H D I ⟨y, c, sr, h⟩ => by simp only [exS] at h; exact h.elim⟩
              · cases hx
            · cases hx
          · split
            · exact s_never
            · rename_i hcmp
              refine s_expr (ser lv e).pe ?_
              cases e <;> first | rfl | (simp [isComp] at hcmp)
      | Assign tgs v p =>
        match tgs with
        | [tg] =>
          cases tg with
          | Name x q =>
            simp only [cS]
            split
            · rename_i hs
              split
              · rename_i i hi
                exact st_name E lv n sp _ x v q p i hs hi
              · exact s_never
            · exact s_never
          | Tuple es k q =>
            simp only [cS]
            split
            · rename_i ts one ves k2 p2 ht
              split
              · exact s_never
              · rename_i hc
                simp only [Bool.or_eq_true, Bool.not_eq_true', not_or, Bool.not_eq_false, Bool.not_eq_true] at hc
                simp only [tgOf, Option.map_eq_some_iff, Prod.mk.injEq] at ht
                obtain ⟨is, hi, rfl, rfl⟩ := ht
                split
                · rename_i hO
                  simp only [Bool.and_eq_true] at hO
                  refine st_parO E lv n sp es ves k k2 q p2 p _ hi hc.1 hc.2 hO.1 ?_
                  have h9 := hc.2
                  have h8 := hO.1
                  unfold swO at h8
                  unfold parOk at h9
                  split at h8
                  · rename_i nms hsw
                    have hsw : swapN sc es ves = some (some nms) := hsw
                    simp only [elts, hsw, Bool.and_eq_true, beq_iff_eq] at h9
                    exact h9.2.symm
                  · cases h8
                · exact st_par E lv n sp es ves k k2 q p2 p _ hi hc.1 hc.2
            · rename_i v _ _ ts one ht hnt
              have e1 : one = false := by
                simp only [tgOf, Option.map_eq_some_iff, Prod.mk.injEq] at ht
                obtain ⟨is, hi, rfl, rfl⟩ := ht
                rfl
              subst e1
              refine s_asgT (ser lv v).pe (fun f => d_g E f ht) ?_ ?_ rfl
              · cases v <;> rfl
              · cases v <;> first | rfl | exact absurd rfl (hnt _ _ _)
            · exact s_never
          | Subscript o ix q =>
            cases o with
            | Name x q2 =>
              simp only [cS]
              split
              · rename_i hc
                simp only [Bool.and_eq_true, decide_eq_true_eq, Bool.not_eq_true'] at hc
                obtain ⟨⟨⟨h1, h2⟩, h3⟩, h4⟩ := hc
                split
                · rename_i i hi
                  obtain ⟨v1, d1, d2⟩ := vis_of E.eq h2
                  refine s_setIx (by rw [E.e.n]; exact slotOf_get hi) v1 d1 d2 (ser lv v).pe (ser lv ix).pe (fun w => ?_) ?_ ?_
                  · cases ix <;> first | rfl | (simp [isSlc] at h4)
                  · cases v <;> rfl
                  · cases v <;> rfl
                · exact s_never
              · exact s_never
            | _ => simp only [cS]; exact s_never
          | _ => simp only [cS]; exact s_never
        | [] => simp only [cS]; exact s_never
        | _ :: _ :: _ => simp only [cS]; exact s_never
      | Return o p =>
        cases o with
        | none => simp only [cS]; exact s_retN
        | some e => simp only [cS]; exact s_ret (ser lv e).pe
      | If t b o p => simp only [cS]; exact s_if (ser lv t).pt (ihL lv sp b) (ihL lv sp o)
      | For tg it b o p =>
        cases o with
        | nil =>
          simp only [cS]
          split
          · rename_i ts one ht
            split
            · exact s_never
            · rename_i hset
              refine s_for E.pass E.e.calm (d_I E lv n tg (!one) it (tg_tup ht)) (fun f => d_g E f ht) (l_wipe (ihL lv false b)) (fun x => ?_)
              cases it <;> first | rfl | (simp [isSet] at hset)
          · exact s_never
        | cons _ _ => simp only [cS]; exact s_never
      | While t b o p =>
        cases o with
        | nil => simp only [cS]; exact s_while E.pass (ser lv t).pt (l_wipe (ihL lv false b))
        | cons _ _ => simp only [cS]; exact s_never
      | Pass p => simp only [cS]; exact s_pass
      | _ => simp only [cS]; exact s_never
    · cases ss with
      | nil => simp only [cL]; exact l_nil
      | cons s r =>
        simp only [cL]
        split
        · exact l_scope (l_cons (ihS _ _ s) (ihL _ _ r))
        · exact l_cons (ihS _ _ s) (ihL _ _ r)
end
end Sd

/-! Sd23: defs. -/
namespace Sd
open PySem PySem.Spec PyProof.Rows L2

/-! ### the state at the entry -/
open Classical in
/-- all but the streams -/
noncomputable def offH (sx : List (Addr × Addr)) (H : Hp) : Hp := fun a => if NotStr sx a then H a else none
theorem offH_some {sx : List (Addr × Addr)} {H : Hp} {a : Addr} {o : HO} : offH sx H a = some o ↔ NotStr sx a ∧ H a = some o := by
  unfold offH
  split
  · rename_i h; exact ⟨fun z => ⟨h, z⟩, fun z => z.2⟩
  · rename_i h; exact ⟨fun z => (by cases z), fun z => absurd z.1 h⟩
theorem offH_str {sx : List (Addr × Addr)} {H : Hp} {q : Addr × Addr} (h : q ∈ sx) : offH sx H q.1 = none ∧ offH sx H q.2 = none := by
  refine ⟨?_, ?_⟩
  · cases e : offH sx H q.1 with
    | none => rfl
    | some o => exact absurd rfl ((offH_some.mp e).1 q h).1
  · cases e : offH sx H q.2 with
    | none => rfl
    | some o => exact absurd rfl ((offH_some.mp e).1 q h).2
theorem nd_apart : ∀ {l : List (Addr × Addr)}, (l.flatMap fun p => [p.1, p.2]).Nodup → ∀ {p q : Addr × Addr}, p ∈ l → q ∈ l → (p.1 = q.1 ∨ p.1 = q.2 ∨ p.2 = q.1 ∨ p.2 = q.2) → p = q
  | [], _, _, _, h, _, _ => by simp at h
  | r :: l, nd, p, q, hp, hq, e => by
    have nd' : ((r.1 ≠ r.2 ∧ r.1 ∉ l.flatMap fun p => [p.1, p.2]) ∧ r.2 ∉ l.flatMap fun p => [p.1, p.2]) ∧ (l.flatMap fun p => [p.1, p.2]).Nodup := by
      simp only [List.flatMap_cons, List.cons_append, List.nil_append, List.nodup_cons, List.mem_cons, not_or] at nd
      exact ⟨⟨nd.1, nd.2.1⟩, nd.2.2⟩
    obtain ⟨⟨⟨n1, n2⟩, n3⟩, n4⟩ := nd'
    have inn : ∀ {z : Addr × Addr}, z ∈ l → z.1 ∈ (l.flatMap fun p => [p.1, p.2]) ∧ z.2 ∈ (l.flatMap fun p => [p.1, p.2]) := fun {z} hz => ⟨List.mem_flatMap.mpr ⟨z, hz, by simp⟩, List.mem_flatMap.mpr ⟨z, hz, by simp⟩⟩
    rcases List.mem_cons.mp hp with rfl | hp <;> rcases List.mem_cons.mp hq with rfl | hq
    · rfl
    · obtain ⟨i1, i2⟩ := inn hq
      rcases e with e | e | e | e
      · exact absurd (e ▸ i1) n2
      · exact absurd (e ▸ i2) n2
      · exact absurd (e ▸ i1) n3
      · exact absurd (e ▸ i2) n3
    · obtain ⟨i1, i2⟩ := inn (by assumption : p ∈ l)
      rcases e with e | e | e | e
      · exact absurd (e ▸ i1) n2
      · exact absurd (e ▸ i1) n3
      · exact absurd (e ▸ i2) n2
      · exact absurd (e ▸ i2) n3
    · exact nd_apart n4 hp hq e
theorem startR_get {fd : Fd} {ds : List D} {i : Nat} {sl : Slot} (h : (startR fd ds)[i]? = some sl) : (∃ d, ds[i]? = some d ∧ sl = .sh (nrm d ⟨0, 0⟩) d) ∨ sl = .un := by
  unfold startR at h
  by_cases hi : i < ds.length
  · rw [List.getElem?_append_left (by simpa using hi), List.getElem?_map] at h
    cases e : ds[i]? with
    | none => rw [e] at h; cases h
    | some d => rw [e] at h; cases h; exact .inl ⟨d, rfl, rfl⟩
  · rw [List.getElem?_append_right (by simpa using hi), List.getElem?_replicate] at h
    split at h
    · cases h; exact .inr rfl
    · cases h
theorem start_get {N : List Str} {vs : List V} {i : Nat} {v : V} (h : vs[i]? = some v) : (L2.start N vs)[i]? = some (some v) := by
  unfold L2.start
  have hi := (List.getElem?_eq_some_iff.mp h).1
  rw [List.getElem?_append_left (by simpa using hi), List.getElem?_map, h]; rfl
abbrev y0 (sx : List (Addr × Addr)) (A H : Hp) (Z : Hp) : Dy := ⟨Z, H, fun _ => A, sx⟩
theorem sr_start {fd : Fd} {sx : List (Addr × Addr)} {s : List Stm} {ds : List D} {vs : List V} {A H : Hp} (h1 : Sub A H) (h2 : OffS sx A) (h3 : StrO sx s H) (h4 : Rps sx A ds vs) (hl : ds.length ≤ fd.N.length) :
    SR (y0 sx A H (offH sx H)) 1 ⟨startR fd ds, s⟩ (L2.start fd.N vs) H := by
  have hreg : regm (fun _ => A) 1 ⟨0, 0⟩ = A := by
    funext a
    cases e : A a with
    | none => exact Sub.none (regm_sub (G := fun _ => A) (lv := 1)) e
    | some o => exact regm_in (G := fun _ => A) (lv := 1) e (.inl rfl) (by show A a ≠ none; rw [e]; exact fun z => by cases z)
  have noow : ∀ {i : Nat} {p : Addr}, ¬ OwnAt ⟨startR fd ds, s⟩ (L2.start fd.N vs) i p := fun {i p} ⟨⟨f, d, h⟩, _⟩ => by
    rcases startR_get h with ⟨_, _, e⟩ | e <;> cases e
  refine ⟨Nat.le_refl _, fun a h => ?_, ⟨fun _ _ _ => Sub.refl _, fun _ _ => rfl⟩, h1, fun a o h => (offH_some.mp h).2, fun a h => h, fun a o h => .inl h, fun i sl hi => ?_, fun i j p h => absurd h noow, ⟨h3.len, h3.at_, fun q hq => ?_, h3.nd⟩, ?_⟩
  · obtain ⟨o, ho⟩ := Option.ne_none_iff_exists'.mp h
    show H a ≠ none
    rw [(offH_some.mp ho).2]; exact fun z => by cases z
  · rcases startR_get hi with ⟨d, hd, rfl⟩ | rfl
    · obtain ⟨v, hv, r⟩ := h4.get hd
      refine ⟨v, getD_some.mpr (start_get hv), ?_⟩
      have r' : Rp sx (regm (fun _ => A) 1 ⟨0, 0⟩) d v := by rw [hreg]; exact r
      exact r'.nrm
    · trivial
  · obtain ⟨a1, a2⟩ := h2 q hq
    obtain ⟨a3, a4⟩ := offH_str (H := H) hq
    exact ⟨a1, a2, a3, a4⟩
  · have := h4.length
    show (startR fd ds).length = (L2.start fd.N vs).length
    unfold startR L2.start
    simp only [List.length_append, List.length_map, List.length_replicate]
    omega
/-- the state at the end, for the caller -/
theorem aft_end {sx : List (Addr × Addr)} {A H H' : Hp} {y : Dy} {c : C} {σ : L2.St} {sp : Bool} (x : ExtS sp (y0 sx A H (offH sx H)) 1 y) (s : SR y 1 c σ H') : Aft sx c.s y.sx H H' := by
  have hz : y.Z = offH sx H := x.z
  refine ⟨x.s, ⟨s.str.len, s.str.at_, s.str.nd⟩, fun q hq hn => ?_, fun a o h n => s.prot a o (by rw [hz]; exact offH_some.mpr ⟨n, h⟩)⟩
  obtain ⟨_, _, a3, a4⟩ := s.str.off q hq
  rw [hz] at a3 a4
  have fresh : ∀ a, (a = q.1 ∨ a = q.2) → offH sx H a = none → H a = none := fun a ha hz' => by
    cases e : H a with
    | none => rfl
    | some o =>
      exfalso
      have n : NotStr sx a := fun r hr => by
        have hr' : r ∈ y.sx := by obtain ⟨t, ht⟩ := x.s; rw [ht]; exact List.mem_append_left _ hr
        refine ⟨fun z => ?_, fun z => ?_⟩
        · have : q = r := nd_apart s.str.nd hq hr' (by rcases ha with ha | ha; exact .inl (ha.symm.trans z); exact .inr (.inr (.inl (ha.symm.trans z))))
          exact hn (this ▸ hr)
        · have : q = r := nd_apart s.str.nd hq hr' (by rcases ha with ha | ha; exact .inr (.inl (ha.symm.trans z)); exact .inr (.inr (.inr (ha.symm.trans z))))
          exact hn (this ▸ hr)
      rw [offH_some.mpr ⟨n, e⟩] at hz'; cases hz'
  exact ⟨fresh _ (.inl rfl) a3, fresh _ (.inr rfl) a4⟩
theorem back_end {sx : List (Addr × Addr)} {A H H' Z : Hp} {y : Dy} {c : C} {σ : L2.St} {sp : Bool} {f : Fl} (x : ExtS sp (y0 sx A H Z) 1 y) (s : SR y 1 c σ H') : Back A f y.sx H H' (regm y.G 1 f) := by
  have g0 : y.G 0 = A := x.low 0 (by omega)
  have hb : y.B = H := x.b
  refine ⟨regm_sub.trans s.top, fun q hq => ?_, fun a o h => ?_, fun hf a o h => ?_⟩
  · obtain ⟨a1, a2, _, _⟩ := s.str.off q hq
    exact ⟨Sub.none regm_sub a1, Sub.none regm_sub a2⟩
  · rcases s.fresh a o (regm_sub _ _ h) with z | z
    · rw [g0] at z; exact .inl z
    · rw [hb] at z; exact .inr z
  · obtain ⟨h0, h1⟩ := regm_out h
    rcases h1 with h1 | ⟨h1, _⟩
    · exact .inl h1
    · have n0 : y.G 0 a = none := by
        rcases h1 with h1 | h1
        · omega
        · exact (s.g.mono 0 (f.lo - 1) (by omega)).none h1
      rcases s.fresh a o h0 with z | z
      · rw [n0] at z; cases z
      · rw [hb] at z; exact .inr z

/-! ### a def keeps its promise -/
structure FnFacts (K : PySem.W.Frag) (x : Str) (a : Ann) (ps : List Str) (params : Arguments) (body : List Stmt) (sc : Scope) (f : Addr) (fd : FuncData) : Prop where
  ex : ∃ (oc : Value) (od : Option Addr) (kV doc pm : Value) (an : Option Addr) (cdv ct : Value) (osl : Array (Option Value)),
    fd = PySem.W.fnOf x x params body sc .none kV doc pm an cdv ct ∧ K.lookup f = some ⟨oc, od, .func fd, osl⟩ ∧ PySem.W.codeIn K cdv x = true
  S : FnScope a.N ps sc
/-- what defs are called with, what stands in the module -/
structure ModEnv (P : Program) (w : World) (K : PySem.W.Frag) (mg : Str → Option Value) (base : Heap) (us : List Str) (ct : Ct) (cl : Caller) (sg : Sig) (k : Nat) : Prop where
  blt : ∀ x ∈ bnames, mg x = none
  nodbg : ("__debug__" : Str) ∉ us
  cals : ∀ x ∈ us, ∃ fa fd, mg x = some (.ref fa) ∧ PySem.W.keepIn K (.ref fa) = true ∧ PlainPs fd.params ∧ fd.defaults = .none ∧ fd.params.args.map (·.arg) = sg x ∧ (sg x).Nodup ∧ FnG P w K mg base (L2.CX P w) k fa fd (sg x) (spF ct (cl x) (sg x).length)
  spoil : ∀ (X : Cx), X.prog = P → X.w = w → X.K = K → X.mg = mg → X.base = base → RoomG k X.A → X.calm = true → ∀ (W : WX), Takes X W → Gl X "_law_spoilt" → ∀ (lv : Nat) (x : Expr) (i : IE) (p pos pos2 : Pos), isStar x = false → PE X x (tE ct cl sg W lv i) → PS X (.Expr (.Call (.Name "_law_spoilt" p) [x] [] pos) pos2) (tS ct cl sg W lv true (.spoil i))
theorem fn_ok {P : Program} {w : World} {K : PySem.W.Frag} {mg : Str → Option Value} {base : Heap} {us : List Str} {ct : Ct} {cl : Caller} {sg : Sig} {k : Nat} {x : Str} {a : Ann} {ps : List Str} {params : Arguments} {body : List Stmt} {sc : Scope} {f : Addr} {fd : FuncData}
    {cf : List D → List Stm → Option (Fl × D × List Stm ⊕ Exn × List Stm)} (M : ModEnv P w K mg base us ct cl sg k) (F : FnFacts K x a ps params body sc f fd)
    (hcf : ∀ as s, cf as s = if as.length = ps.length then endW (exL cl sg 1 false (cL us a 200 sc body) ⟨startR ⟨ps, a.N, cL us a 200 sc body⟩ as, s⟩) else none) :
    FnG P w K mg base (L2.CX P w) (k + 1) f fd ps (spF ct cf ps.length) := by
  obtain ⟨oc, od, kV, doc, pm, an, cdv, ctv, osl, rfl, lk, hcd⟩ := F.ex
  refine fn_ofG lk hcd F.S (fun vs H Q E h => h.len) fun A outer s H vs Q E hr hsp => ?_
  have tk : Takes (cxOf (L2.CX P w) P w K mg base a.N x sc f cdv A outer s H E) (fun cls d _ H => E cls d H) := takes_of rfl rfl rfl rfl
  have env : DefEnv (cxOf (L2.CX P w) P w K mg base a.N x sc f cdv A outer s H E) us a ct cl sg k (fun cls d _ H => E cls d H) sc :=
    ⟨⟨rfl, F.S.nd, rfl, hr, M.blt, fun x hx => ⟨M.cals x hx⟩, M.nodbg⟩, rfl, F.S.kind, ⟨rfl, F.S.nd, fun z hz => ⟨isSto_loc hz, .inl rfl⟩⟩, passes_of rfl, tk, M.spoil _ rfl rfl rfl rfl rfl hr rfl _ tk⟩
  refine ⟨_, (st_all env 200 1 false).2 body, ?_⟩
  obtain ⟨sx, st, ds, A0, h1, h2, h3, h4, h5, h6⟩ := hsp
  have hpl : ps.length ≤ a.N.length := by have := congrArg List.length F.S.pre; rw [List.length_take] at this; omega
  rw [hcf, if_pos h1] at h6
  refine ⟨_, _, sr_start (fd := ⟨ps, a.N, cL us a 200 sc body⟩) h2 h3 h4 h5 (by show ds.length ≤ a.N.length; omega), ?_⟩
  cases eo : exL cl sg 1 false (cL us a 200 sc body) ⟨startR ⟨ps, a.N, cL us a 200 sc body⟩ ds, st⟩ with
  | stuck => rw [eo] at h6; exact h6.elim
  | nx c' =>
    rw [eo] at h6
    have h6 : ∀ v H' sx' B, Aft sx c'.s sx' H H' → Back A0 Fl.top sx' H H' B → Rp sx' B .non v → Q v H' := h6
    exact fun y' σ' H' x s' => h6 .non H' _ _ (aft_end x s') (back_end x s') (by simp [Rp])
  | rt fl d c' =>
    rw [eo] at h6
    have h6 : ∀ v H' sx' B, Aft sx c'.s sx' H H' → Back A0 fl sx' H H' B → Rp sx' B d v → Q v H' := h6
    exact fun y' σ' v H' x s' r => h6 v H' _ _ (aft_end x s') (back_end x s') r
  | exc e c' =>
    rw [eo] at h6
    have h6 : ∀ cv d H' sx' B, Aft sx c'.s sx' H H' → Back A0 e.fl sx' H H' B → ExB ct sx' B H' e cv d → E cv d H' := h6
    exact fun y' σ' H' cv d x s' r => h6 cv d H' _ _ (aft_end x s') (back_end x s') r
/-- nothing is promised -/
theorem fn_none {P : Program} {w : World} {K : PySem.W.Frag} {mg : Str → Option Value} {base : Heap} {ct : Ct} {k n : Nat} {f : Addr} {fd : FuncData} {ps : List Str} {CX : CXT} : FnG P w K mg base CX k f fd ps (spF ct (fun _ _ => none) n) :=
  ⟨fun vs H Q E ⟨sx, s, ds, A, h1, h2, h3, h4, h5, h6⟩ => h6.elim, fun _ _ _ _ ⟨sx, st, ds, A0, h1, h2, h3, h4, h5, h6⟩ => h6.elim⟩
end Sd

/-! Sd24: the next draw. -/
namespace Sd
open PySem PySem.Spec PyProof.Rows L2
/-- the draw's rows, wherever they stand -/
abbrev drawB (p1 p2 p3 p4 p5 p6 p7 p8 p9 p10 p11 p12 p13 p14 p15 p16 p17 p18 p19 p20 p21 p22 p23 p24 p25 p26 p27 p28 p29 p30 p31 p32 p33 p34 p35 p36 p37 p38 p39 p40 p41 p42 p43 p44 p45 p46 p47 p48 p49 p50 p51 p52 p53 p54 p55 p56 p57 p58 p59 p60 p61 p62 p63 p64 p65 p66 p67 p68 p69 p70 p71 p72 p73 p74 p75 p76 p77 p78 p79 p80 p81 p82 p83 p84 p85 p86 p87 p88 p89 p90 p91 p92 p93 p94 p95 p96 p97 p98 p99 p100 p101 p102 p103 p104 p105 p106 p107 p108 p109 p110 p111 p112 p113 p114 p115 p116 p117 p118 p119 p120 p121 p122 p123 p124 p125 : Pos) (k1 k2 k3 k4 k5 k6 k7 k8 k9 k10 k11 k12 k13 k14 k15 k16 k17 k18 k19 k20 k21 k22 k23 k24 k25 k26 k27 k28 k29 k30 k31 k32 k33 k34 : Nat) : List Stmt := [
  .Assign [(.Subscript (.Name "stream" p1) (.Constant (.int 2) k1 p2) p3)] (.BinOp (.Subscript (.Name "stream" p4) (.Constant (.int 2) k2 p5) p6) .Add (.Constant (.int 1) k3 p7) p8) p9,
  .While (.BoolOp .And [(.Compare (.Subscript (.Name "stream" p10) (.Constant (.int 1) k4 p11) p12) [.Eq] [(.Constant (.int 0) k5 p13)] p14), (.Compare (.Subscript (.Name "stream" p15) (.Constant (.int 0) k6 p16) p17) [.NotEq] [(.List [] p18)] p19)] p20) [.Assign [(.Name "cell" p21)] (.Call (.Name "abs" p22) [(.Call (.Attribute (.Subscript (.Name "stream" p23) (.Constant (.int 0) k7 p24) p25) "pop" p26) [(.Constant (.int 0) k8 p27)] [] p28)] [] p29) p30, .Assign [(.Subscript (.Name "stream" p31) (.Constant (.int 3) k9 p32) p33)] (.BinOp (.Call (.Name "int" p34) [(.BinOp (.BinOp (.BinOp (.Subscript (.Name "stream" p35) (.Constant (.int 3) k10 p36) p37) .Mult (.Constant (.int 6151) k11 p38) p39) .Add (.Name "cell" p40) p41) .Add (.Constant (.int 7) k12 p42) p43)] [] p44) .Mod (.Constant (.int 2147483629) k13 p45) p46) p47, .Assign [(.Subscript (.Name "stream" p48) (.Constant (.int 1) k14 p49) p50)] (.IfExp (.Compare (.Name "cell" p51) [.GtE] [(.BinOp (.Constant (.int 10) k15 p52) .Pow (.Constant (.int 18) k16 p53) p54)] p55) (.Name "cell" p56) (.Constant (.int 0) k17 p57) p58) p59] [] p60,
  .If (.Compare (.Subscript (.Name "stream" p61) (.Constant (.int 1) k18 p62) p63) [.Gt] [(.Constant (.int 0) k19 p64)] p65) [.Assign [(.Name "digit" p66)] (.BinOp (.Call (.Name "int" p67) [(.Subscript (.Name "stream" p68) (.Constant (.int 1) k20 p69) p70)] [] p71) .Mod (.Name "many" p72) p73) p74, .Assign [(.Subscript (.Name "stream" p75) (.Constant (.int 1) k21 p76) p77)] (.BinOp (.Subscript (.Name "stream" p78) (.Constant (.int 1) k22 p79) p80) .FloorDiv (.Name "many" p81) p82) p83, .Return (some (.Name "digit" p84)) p85] [] p86,
  .Assign [(.Name "mixed" p87)] (.BinOp (.Call (.Name "int" p88) [(.BinOp (.BinOp (.BinOp (.Subscript (.Name "stream" p89) (.Constant (.int 3) k23 p90) p91) .Add (.BinOp (.Constant (.int 8191) k24 p92) .Mult (.Subscript (.Name "stream" p93) (.Constant (.int 2) k25 p94) p95) p96) p97) .Add (.Constant (.int 50021) k26 p98) p99) .Pow (.Constant (.int 5) k27 p100) p101)] [] p102) .Mod (.Constant (.int 2147483587) k28 p103) p104) p105,
  .Return (some (.BinOp (.BinOp (.Call (.Name "int" p106) [(.BinOp (.BinOp (.BinOp (.BinOp (.Name "mixed" p107) .Mult (.Constant (.int 40009) k29 p108) p109) .Add (.BinOp (.Constant (.int 20011) k30 p110) .Mult (.Subscript (.Name "stream" p111) (.Constant (.int 2) k31 p112) p113) p114) p115) .Add (.Constant (.int 31) k32 p116) p117) .Pow (.Constant (.int 3) k33 p118) p119)] [] p120) .Mod (.Constant (.int 1000000009) k34 p121) p122) .Mod (.Name "many" p123) p124)) p125]
/-- the stream at p, its cells at q; all else as it was -/
structure HS (H0 : Hp) (p q : Addr) (cs : List Int) (cur cnt mix : Int) (H : Hp) : Prop where
  hp : H p = some (.lst [.ref q, .int cur, .int cnt, .int mix])
  hq : H q = some (.lst (cs.map V.int))
  ne : p ≠ q
  keep : ∀ a o, a ≠ p → a ≠ q → H0 a = some o → H a = some o
def Ev (t : TE) (σ : L2.St) (H : Hp) (v : V) : Prop := ∀ Q : VK, Q v H → t σ H Q
section
variable {σ : L2.St} {H : Hp}
theorem ev_var {i : Nat} {v : V} (h : σ[i]? = some (some v)) : Ev (tVar i) σ H v := fun Q q => ⟨v, h, q⟩
theorem ev_c {v : V} : Ev (tC v) σ H v := fun Q q => q
theorem ev_op {r : R2} {ta tb : TE} {x y z : V} (ha : Ev ta σ H x) (hb : Ev tb σ H y) (h : ∀ Q : VK, Q z H → r x y H Q) : Ev (tOp r ta tb) σ H z := fun Q q => ha _ (hb _ (h Q q))
theorem ev_add {ta tb : TE} {i j : Int} (ha : Ev ta σ H (.int i)) (hb : Ev tb σ H (.int j)) : Ev (tOp (rI0 fun i j => .int (i + j)) ta tb) σ H (.int (i + j)) := ev_op ha hb fun Q q => ⟨i, j, rfl, rfl, q⟩
theorem ev_mul {ta tb : TE} {i j : Int} (ha : Ev ta σ H (.int i)) (hb : Ev tb σ H (.int j)) (h : CMulW i j) : Ev (tOp (rI CMulW fun i j => .int (i * j)) ta tb) σ H (.int (i * j)) := ev_op ha hb fun Q q => ⟨i, j, rfl, rfl, h, q⟩
theorem ev_mod {ta tb : TE} {i j : Int} (ha : Ev ta σ H (.int i)) (hb : Ev tb σ H (.int j)) (h : 0 < j) : Ev (tOp (rI (fun _ j => 0 < j) fun i j => .int (i % j)) ta tb) σ H (.int (i % j)) := ev_op ha hb fun Q q => ⟨i, j, rfl, rfl, h, q⟩
theorem ev_div {ta tb : TE} {i j : Int} (ha : Ev ta σ H (.int i)) (hb : Ev tb σ H (.int j)) (h : CDivW i j) : Ev (tOp (rI CDivW fun i j => .int (i / j)) ta tb) σ H (.int (i / j)) := ev_op ha hb fun Q q => ⟨i, j, rfl, rfl, h, q⟩
theorem ev_pow {ta tb : TE} {i j : Int} (ha : Ev ta σ H (.int i)) (hb : Ev tb σ H (.int j)) (h : CPow i j) : Ev (tOp (rI CPow fun i j => .int (i ^ j.toNat)) ta tb) σ H (.int (i ^ j.toNat)) := ev_op ha hb fun Q q => ⟨i, j, rfl, rfl, h, q⟩
theorem ev_ix {K : PySem.W.Frag} {ta tb : TE} {p : Addr} {xs : List V} {i : Int} {v : V} (ha : Ev ta σ H (.ref p)) (hb : Ev tb σ H (.int i)) (hp : H p = some (.lst xs)) (h : atI xs i = some v) : Ev (tOp (rIx K) ta tb) σ H v := ev_op ha hb fun Q q => .inl ⟨p, xs, i, v, rfl, rfl, .of hp, h, q⟩
theorem ev_int {ta : TE} {i : Int} (ha : Ev ta σ H (.int i)) : Ev (tCB (fun xs H Q => (∃ i, xs = [.int i] ∧ Q (.int i) H) ∨ ∃ k, xs = [.bl k] ∧ Q (.int (if k then 1 else 0)) H) (tCons ta tNil)) σ H (.int i) := fun Q q => ha _ (.inl ⟨i, rfl, q⟩)
/-- a test of two ints -/
theorem ev_gt {ta tb : TE} {i j : Int} {Q : Bool → Hp → Prop} {g : Int → Int → Bool} (ha : Ev ta σ H (.int i)) (hb : Ev tb σ H (.int j)) (q : Q (g i j) H) : tTest (tOp (rI0 fun i j => .bl (g i j)) ta tb) σ H Q := ha _ (hb _ ⟨i, j, rfl, rfl, g i j, rfl, q⟩)
end
theorem big_of {n : Nat} (h : n < 2 ^ 64) : n < BIG := Nat.lt_of_lt_of_le h (by unfold BIG; exact Nat.pow_le_pow_right (by decide) (by decide))
theorem div_of {n : Nat} (h : n < 2 ^ 64) : n < 2 ^ 9000 := Nat.lt_of_lt_of_le h (Nat.pow_le_pow_right (by decide) (by decide))
theorem mul_c {i j : Int} (h : i.natAbs < 2 ^ 64) (k : j.natAbs < 2 ^ 64) : CMulW i j := mulOk_c (by simp only [mulOk, Bool.and_eq_true, decide_eq_true_eq]; exact ⟨big_of h, big_of k⟩)
theorem div_c {i j : Int} (h : 0 < j) (k : j.natAbs < 2 ^ 64) : CDivW i j := divOk_c (by simp only [divOk, Bool.and_eq_true, decide_eq_true_eq]; exact ⟨h, div_of k⟩)
/-- a heap, seen by the evaluator's lemmas -/
abbrev yH (H : Hp) : Dy := ⟨fun _ => none, fun _ => none, fun _ => H, []⟩
theorem vw_int {H : Hp} {i : Int} : Vw (yH H) 0 H Fl.top (.int i) (.int i) := by simp [Vw, Rp]
theorem vw_ints {H : Hp} {q : Addr} {cs : List Int} (h : H q = some (.lst (cs.map V.int))) : Vw (yH H) 0 H Fl.top (.lst (cs.map D.int)) (.ref q) := ⟨q, _, rfl, h, Rps.ints cs⟩
theorem eqOks_ints : ∀ cs : List Int, eqOks 59 (cs.map D.int) = true
  | [] => rfl
  | c :: cs => by simp [eqOks, eqOk, eqOks_ints cs]
section
variable {X : Cx}
/-- what is known of the draw's context -/
structure DrEnv (X : Cx) : Prop where
  N : X.N = (["stream", "many", "cell", "digit", "mixed"] : List Str)
  sc : ∀ x ∈ (["stream", "many", "cell", "digit", "mixed"] : List Str), X.env.scope.names.lookup x = some .local
  ga : Gl X "abs"
  gi : Gl X "int"
  ma : X.mg "abs" = none
  mi : X.mg "int" = none
  calm : X.calm = true
  room : ∃ k, RoomG k X.A
  pass : PassesOwn (model X.prog X.w) X.A X.env X.xe
theorem DrEnv.v (E : DrEnv X) {i : Nat} {x : Str} {p : Pos} (h : (["stream", "many", "cell", "digit", "mixed"] : List Str)[i]? = some x) (hd : (x == ("__debug__" : Str)) = false := by decide) (hcd : (x == ("__classdict__" : Str)) = false := by decide) : PE X (.Name x p) (tVar i) :=
  pe_var (by rw [E.N]; exact h) (.inl (E.sc x (List.mem_of_getElem? h))) hd hcd
theorem DrEnv.st (E : DrEnv X) {i : Nat} {x : Str} (h : (["stream", "many", "cell", "digit", "mixed"] : List Str)[i]? = some x) : X.N.Nodup ∧ X.N[i]? = some x ∧ L2.Loc X.env.scope x ∧ X.env.scope.names.lookup x = some .local :=
  ⟨by rw [E.N]; decide, by rw [E.N]; exact h, .inl (E.sc x (List.mem_of_getElem? h)), E.sc x (List.mem_of_getElem? h)⟩
/-- stream[i] -/
theorem DrEnv.at (E : DrEnv X) {i : Int} {j : Nat} {p1 p2 p3 : Pos} : PE X (.Subscript (.Name "stream" p1) (.Constant (.int i) j p2) p3) (tOp (rIx X.K) (tVar 0) (tC (.int i))) := pe_ix ix_seq (E.v (i := 0) rfl) pe_int fun _ _ => rfl
/-- stream[i] = e -/
theorem DrEnv.put (E : DrEnv X) {e : Expr} {te : TE} {i : Int} {j : Nat} {p1 p2 p3 p4 : Pos} (he : PE X e te) (hs : swapsWithSole [.Subscript (.Name "stream" p1) (.Constant (.int i) j p2) p3] e p4.line X.env = pure false) (hw : swappedStores [.Subscript (.Name "stream" p1) (.Constant (.int i) j p2) p3] e X.env = pure none) :
    PS X (.Assign [.Subscript (.Name "stream" p1) (.Constant (.int i) j p2) p3] e p4) (tAsg te (gSub (tVar 0) (tC (.int i)) rSetL)) := ps_asg he (pg_sub (E.v (i := 0) rfl) pe_int set_list) hs hw rfl
end
/-! ### a store into the stream -/
section
variable {H0 H : Hp} {p q : Addr} {cs : List Int} {cur cnt mix z : Int} {σ : L2.St} {Q : L2.St → Hp → Prop}
theorem HS.set {H' : Hp} {xs : List V} (h : HS H0 p q cs cur cnt mix H) (c : Int) (cu m : Int) (e : H' = upd H p (.lst [.ref q, .int cu, .int c, .int m])) : HS H0 p q cs cu c m H' := by
  subst e
  refine ⟨upd_same, by rw [upd_ne (Ne.symm h.ne)]; exact h.hq, h.ne, fun a o h1 h2 h3 => ?_⟩
  rw [upd_ne h1]; exact h.keep a o h1 h2 h3
theorem put1 (h0 : σ[0]? = some (some (.ref p))) (h : HS H0 p q cs cur cnt mix H) (k : ∀ H', HS H0 p q cs z cnt mix H' → Q σ H') : gSub (tVar 0) (tC (.int 1)) rSetL (.int z) σ H Q :=
  ⟨_, h0, p, _, 1, 1, rfl, rfl, h.hp, rfl, k _ (h.set (xs := []) cnt z mix rfl)⟩
theorem put2 (h0 : σ[0]? = some (some (.ref p))) (h : HS H0 p q cs cur cnt mix H) (k : ∀ H', HS H0 p q cs cur z mix H' → Q σ H') : gSub (tVar 0) (tC (.int 2)) rSetL (.int z) σ H Q :=
  ⟨_, h0, p, _, 2, 2, rfl, rfl, h.hp, rfl, k _ (h.set (xs := []) z cur mix rfl)⟩
theorem put3 (h0 : σ[0]? = some (some (.ref p))) (h : HS H0 p q cs cur cnt mix H) (k : ∀ H', HS H0 p q cs cur cnt z H' → Q σ H') : gSub (tVar 0) (tC (.int 3)) rSetL (.int z) σ H Q :=
  ⟨_, h0, p, _, 3, 3, rfl, rfl, h.hp, rfl, k _ (h.set (xs := []) cnt cur z rfl)⟩
theorem at1 {K : PySem.W.Frag} (h0 : σ[0]? = some (some (.ref p))) (h : HS H0 p q cs cur cnt mix H) : Ev (tOp (rIx K) (tVar 0) (tC (.int 1))) σ H (.int cur) := ev_ix (ev_var h0) ev_c h.hp rfl
theorem at2 {K : PySem.W.Frag} (h0 : σ[0]? = some (some (.ref p))) (h : HS H0 p q cs cur cnt mix H) : Ev (tOp (rIx K) (tVar 0) (tC (.int 2))) σ H (.int cnt) := ev_ix (ev_var h0) ev_c h.hp rfl
theorem at3 {K : PySem.W.Frag} (h0 : σ[0]? = some (some (.ref p))) (h : HS H0 p q cs cur cnt mix H) : Ev (tOp (rIx K) (tVar 0) (tC (.int 3))) σ H (.int mix) := ev_ix (ev_var h0) ev_c h.hp rfl
theorem at0 {K : PySem.W.Frag} (h0 : σ[0]? = some (some (.ref p))) (h : HS H0 p q cs cur cnt mix H) : Ev (tOp (rIx K) (tVar 0) (tC (.int 0))) σ H (.ref q) := ev_ix (ev_var h0) ev_c h.hp rfl
end
section
variable {H0 H : Hp} {p q : Addr} {cs : List Int} {cur cnt mix : Int}
theorem HS.alloc {l : Addr} {o : HO} (h : HS H0 p q cs cur cnt mix H) (hl : H l = none) : HS H0 p q cs cur cnt mix (upd H l o) := by
  refine ⟨by rw [upd_ne (ne_of_none h.hp hl)]; exact h.hp, by rw [upd_ne (ne_of_none h.hq hl)]; exact h.hq, h.ne, fun a u h1 h2 h3 => ?_⟩
  have z := h.keep a u h1 h2 h3
  rw [upd_ne (ne_of_none z hl)]; exact z
theorem HS.pop {x : Int} {r : List Int} (h : HS H0 p q (x :: r) cur cnt mix H) : HS H0 p q r cur cnt mix (upd H q (.lst (((x :: r).map V.int).eraseIdx 0))) := by
  refine ⟨by rw [upd_ne h.ne]; exact h.hp, upd_same, h.ne, fun a u h1 h2 h3 => ?_⟩
  rw [upd_ne h2]; exact h.keep a u h1 h2 h3
theorem drawGo_end {cs : List Int} {cur mix : Int} (h : cs = [] ∨ cur ≠ 0) : drawGo cs cur mix = (cs, cur, mix) := by
  cases cs with
  | nil => rfl
  | cons x r =>
    rcases h with h | h
    · cases h
    · simp [drawGo, h]
theorem if0 {A B : Prop} (h : B) : if false = true then A else B := by rw [if_neg Bool.false_ne_true]; exact h
theorem if1 {A B : Prop} (h : A) : if true = true then A else B := by rw [if_pos rfl]; exact h
theorem whl_lem {c : TT} {tb : TS} {D2 : Ends} {σ : L2.St} {H : Hp} (P : L2.St → Hp → Prop) (h1 : ∀ σ H, P σ H → D2.nx σ H) (h2 : (∀ σ H, P σ H → D2.nx σ H) → tWhile c tb D2 σ H) : tWhile c tb D2 σ H := h2 h1
theorem pow_c {i : Int} {n : Nat} (h : i.natAbs < 2 ^ 64) (hn : n ≤ 1000) : CPow i (n : Int) := powOk_c (by simp only [powOk, Bool.and_eq_true, decide_eq_true_eq]; exact ⟨⟨by omega, by omega⟩, h⟩)
end
section
variable {X : Cx}
theorem draw_ps (E : DrEnv X) {p1 p2 p3 p4 p5 p6 p7 p8 p9 p10 p11 p12 p13 p14 p15 p16 p17 p18 p19 p20 p21 p22 p23 p24 p25 p26 p27 p28 p29 p30 p31 p32 p33 p34 p35 p36 p37 p38 p39 p40 p41 p42 p43 p44 p45 p46 p47 p48 p49 p50 p51 p52 p53 p54 p55 p56 p57 p58 p59 p60 p61 p62 p63 p64 p65 p66 p67 p68 p69 p70 p71 p72 p73 p74 p75 p76 p77 p78 p79 p80 p81 p82 p83 p84 p85 p86 p87 p88 p89 p90 p91 p92 p93 p94 p95 p96 p97 p98 p99 p100 p101 p102 p103 p104 p105 p106 p107 p108 p109 p110 p111 p112 p113 p114 p115 p116 p117 p118 p119 p120 p121 p122 p123 p124 p125 : Pos} {k1 k2 k3 k4 k5 k6 k7 k8 k9 k10 k11 k12 k13 k14 k15 k16 k17 k18 k19 k20 k21 k22 k23 k24 k25 k26 k27 k28 k29 k30 k31 k32 k33 k34 : Nat} (hline : (p26.endLine == p28.line) = true) : ∃ t, PSs X (drawB p1 p2 p3 p4 p5 p6 p7 p8 p9 p10 p11 p12 p13 p14 p15 p16 p17 p18 p19 p20 p21 p22 p23 p24 p25 p26 p27 p28 p29 p30 p31 p32 p33 p34 p35 p36 p37 p38 p39 p40 p41 p42 p43 p44 p45 p46 p47 p48 p49 p50 p51 p52 p53 p54 p55 p56 p57 p58 p59 p60 p61 p62 p63 p64 p65 p66 p67 p68 p69 p70 p71 p72 p73 p74 p75 p76 p77 p78 p79 p80 p81 p82 p83 p84 p85 p86 p87 p88 p89 p90 p91 p92 p93 p94 p95 p96 p97 p98 p99 p100 p101 p102 p103 p104 p105 p106 p107 p108 p109 p110 p111 p112 p113 p114 p115 p116 p117 p118 p119 p120 p121 p122 p123 p124 p125 k1 k2 k3 k4 k5 k6 k7 k8 k9 k10 k11 k12 k13 k14 k15 k16 k17 k18 k19 k20 k21 k22 k23 k24 k25 k26 k27 k28 k29 k30 k31 k32 k33 k34) t ∧ ∀ (D : Ends) (H : Hp) (p q : Addr) (st : Stm) (many i : Int) (st' : Stm),
    HS H p q st.cells st.cur st.cnt st.mix H → draw st many = some (i, st') → (∀ H', HS H p q st'.cells st'.cur st'.cnt st'.mix H' → D.rt (.int i) H') → t D [some (.ref p), some (.int many), none, none, none] H := by
  obtain ⟨k, hr0⟩ := E.room
  have hr := hr0.r
  obtain ⟨nd, s2, s2', s2''⟩ := E.st (i := 2) rfl
  obtain ⟨_, s3, s3', s3''⟩ := E.st (i := 3) rfl
  obtain ⟨_, s4, s4', s4''⟩ := E.st (i := 4) rfl
  refine ⟨_, pss_cons (E.put (pe_op op_add E.at pe_int) rfl rfl) (pss_cons (ps_while E.pass (pw_and (pt_cmpR (rCmp_ok hr .eq) E.at pe_int rfl) (pw_and1 (pt_cmpR (rCmp_ok hr .ne) E.at (pe_lst pa_nil) rfl))).pt
      (pss_cons (ps_set nd s2 s2' (pe_callB call_abs E.ga E.ma boot_abs (pa_cons (pe_bm PySem.F.plainAttrs_list PySem.F.slot_list_pop PySem.F.type_list_pop mt_popAt E.at (pa_cons pe_int pa_nil) rfl rfl hline) pa_nil)) rfl (.inr s2''))
        (pss_cons (E.put (pe_op op_mod (pe_callTy call_int1 E.gi E.mi boot_int (pa_cons (pe_op op_add (pe_op op_add (pe_op op_mulW E.at pe_int) (E.v (i := 2) rfl)) pe_int) pa_nil)) pe_int) rfl rfl)
          (pss_one (E.put (pe_ifExp (pt_cmpR op_ge (E.v (i := 2) rfl) (pe_op op_pow pe_int pe_int) rfl) (E.v (i := 2) rfl) pe_int) rfl rfl)))))
    (pss_cons (ps_if (pt_cmpR op_gt E.at pe_int rfl)
        (pss_cons (ps_set nd s3 s3' (pe_op op_mod (pe_callTy call_int1 E.gi E.mi boot_int (pa_cons E.at pa_nil)) (E.v (i := 1) rfl)) rfl (.inr s3''))
          (pss_cons (E.put (pe_op op_fdivW E.at (E.v (i := 1) rfl)) rfl rfl) (pss_one (ps_ret (E.v (i := 3) rfl))))) pss_nil)
      (pss_cons (ps_set nd s4 s4' (pe_op op_mod (pe_callTy call_int1 E.gi E.mi boot_int (pa_cons (pe_op op_pow (pe_op op_add (pe_op op_add E.at (pe_op op_mulW pe_int E.at)) pe_int) pe_int) pa_nil)) pe_int) rfl (.inr s4''))
        (pss_one (ps_ret (pe_op op_mod (pe_op op_mod (pe_callTy call_int1 E.gi E.mi boot_int (pa_cons (pe_op op_pow (pe_op op_add (pe_op op_add (pe_op op_mulW (E.v (i := 4) rfl) pe_int) (pe_op op_mulW pe_int E.at)) pe_int) pe_int) pa_nil)) pe_int) (E.v (i := 1) rfl))))))), ?_⟩
  intro D H p q st many i st' hs hd hk
  unfold draw at hd
  by_cases hb : 0 < many ∧ many < 1000000000 ∧ 0 ≤ st.cnt ∧ st.cnt < cntMax ∧ 0 ≤ st.mix ∧ st.mix < 2147483629
  case neg => rw [if_neg hb] at hd; cases hd
  rw [if_pos hb] at hd
  obtain ⟨m1, m2, c1, c2, x1, x2⟩ := hb
  -- one more is counted
  refine ev_add (at2 rfl hs) ev_c _ (put2 rfl hs fun H1 h1 => ?_)
  cases eg : drawGo st.cells st.cur st.mix with
  | mk cs1 rest =>
  obtain ⟨cur1, mix1⟩ := rest
  rw [eg] at hd
  dsimp only at hd
  have hq1 : cntMax = 281474976710656 := rfl
  refine whl_lem (fun σ' H' => ∃ a, σ' = [some (.ref p), some (.int many), a, none, none] ∧ HS H p q cs1 cur1 (st.cnt + 1) mix1 H' ∧ 0 ≤ mix1 ∧ mix1 < 2147483629) ?_ fun tail => ?_
  · -- behind the loop
    rintro σ' H2 ⟨a, rfl, h2, y1, y2⟩
    refine ev_gt (g := fun i j => decide (j < i)) (at1 rfl h2) ev_c ?_
    by_cases hc : cur1 > 0
    · rw [if_pos hc] at hd
      cases hd
      have hdec : decide ((0 : Int) < cur1) = true := decide_eq_true hc
      rw [hdec, if_pos rfl]
      refine ev_mod (ev_int (at1 rfl h2)) (ev_var rfl) m1 _ ?_
      refine ev_div (at1 rfl h2) (ev_var rfl) (div_c m1 (by omega)) _ (put1 rfl h2 fun H3 h3 => ?_)
      exact ev_var rfl _ (hk H3 h3)
    · rw [if_neg hc] at hd
      cases hd
      have hdec : decide ((0 : Int) < cur1) = false := decide_eq_false hc
      rw [hdec, if_neg Bool.false_ne_true]
      have e5 : (((5 : Nat) : Int).toNat) = 5 := rfl
      have e3 : (((3 : Nat) : Int).toNat) = 3 := rfl
      refine ev_mod (ev_int (ev_pow (ev_add (ev_add (at3 rfl h2) (ev_mul ev_c (at2 rfl h2) (mul_c (by decide) (by omega)))) ev_c) ev_c (pow_c (n := 5) (by omega) (by decide)))) ev_c (by decide) _ ?_
      have b1 : 0 ≤ (mix1 + 8191 * (st.cnt + 1) + 50021) ^ 5 % 2147483587 := Int.emod_nonneg _ (by decide)
      have b2 : (mix1 + 8191 * (st.cnt + 1) + 50021) ^ 5 % 2147483587 < 2147483587 := Int.emod_lt_of_pos _ (by decide)
      rw [e5]
      generalize (mix1 + 8191 * (st.cnt + 1) + 50021) ^ 5 % 2147483587 = mixed at b1 b2 hk
      refine ev_mod (ev_mod (ev_int (ev_pow (ev_add (ev_add (ev_mul (ev_var rfl) ev_c (mul_c (by omega) (by decide))) (ev_mul ev_c (at2 rfl h2) (mul_c (by decide) (by omega)))) ev_c) ev_c (pow_c (n := 3) (by omega) (by decide)))) ev_c (by decide)) (ev_var rfl) m1 _ ?_
      rw [e3]
      exact hk H2 h2
  · -- the loop
    refine ⟨fun m σ' H' => ∃ cs cur mix a, m = cs.length ∧ σ' = [some (.ref p), some (.int many), a, none, none] ∧ HS H p q cs cur (st.cnt + 1) mix H' ∧ drawGo cs cur mix = (cs1, cur1, mix1) ∧ 0 ≤ mix ∧ mix < 2147483629, ⟨_, st.cells, st.cur, st.mix, none, rfl, rfl, h1, eg, x1, x2⟩, ?_⟩
    rintro m σ' H2 ⟨cs, cur, mix, a, rfl, rfl, h2, e2, y1, y2⟩
    have stop : (cs = [] ∨ cur ≠ 0) → ∀ H3, HS H p q cs cur (st.cnt + 1) mix H3 → ∃ a', [some (V.ref p), some (.int many), a, none, none] = [some (.ref p), some (.int many), a', none, none] ∧ HS H p q cs1 cur1 (st.cnt + 1) mix1 H3 ∧ 0 ≤ mix1 ∧ mix1 < 2147483629 := fun hc H3 h3 => by
      rw [drawGo_end hc] at e2
      cases e2
      exact ⟨a, rfl, h3, y1, y2⟩
    refine at1 rfl h2 _ (ev_c _ (cmp_go (K := X.K) (o := .eq) (H := H2) (k := cur == 0) (y := yH H2) (lv := 0) (d := .int cur) (e := .int 0) (f := Fl.top) (g := Fl.top) (Sub.refl _) vw_int vw_int (by simp [cmpD, eqOk, eqD]) ⟨_, rfl, ?_⟩))
    by_cases hcur : cur = 0
    case neg =>
      have e0 : (cur == 0) = false := by simpa using hcur
      rw [e0]
      exact if0 (if0 (tail _ _ (stop (.inr hcur) H2 h2)))
    subst hcur
    rw [show ((0 : Int) == 0) = true from rfl]
    refine if1 (at0 rfl h2 _ ?_)
    refine ⟨Nat.zero_le _, fun l hl => ?_⟩
    have h3 := h2.alloc (o := .lst []) hl
    refine cmp_go (K := X.K) (o := .ne) (H := upd H2 l (.lst [])) (k := !cs.isEmpty) (y := yH (upd H2 l (.lst []))) (lv := 0) (f := Fl.top) (g := Fl.top) (d := .lst (cs.map Sd.D.int)) (e := .lst []) (Sub.refl _) (vw_ints h3.hq) (vw_ints (cs := []) upd_same) ?_ ⟨_, rfl, ?_⟩
    · have z1 : eqOk 60 (.lst (cs.map Sd.D.int)) = true := by show eqOks 59 (cs.map Sd.D.int) = true; exact eqOks_ints cs
      have z2 : eqOk 60 (.lst []) = true := rfl
      simp only [cmpD, z1, z2, Bool.and_self, if_true]
      cases cs <;> rfl
    cases cs with
    | nil => exact if0 (tail _ _ (stop (.inl rfl) _ h3))
    | cons x r =>
      rw [show (!(x :: r).isEmpty) = true from rfl]
      refine if1 ?_
      refine ⟨fun σ' H' => ∃ cs cur mix a, r.length = cs.length ∧ σ' = [some (.ref p), some (.int many), a, none, none] ∧ HS H p q cs cur (st.cnt + 1) mix H' ∧ drawGo cs cur mix = (cs1, cur1, mix1) ∧ 0 ≤ mix ∧ mix < 2147483629, fun σ' H' z => ⟨r.length, Nat.lt_succ_self _, z⟩, ?_⟩
      have nx : (x.natAbs : Int) = if x < 0 then -x else x := by split <;> omega
      refine at0 rfl h3 _ ⟨.inl ⟨rfl, _, .of h3.hq⟩, q, _, 0, 0, V.int x, rfl, rfl, h3.hq, by decide, by decide, (ixN_seq (j := 0) (by simp [ixN])).1, rfl, ⟨x, rfl, ?_⟩⟩
      rw [← nx]
      have h4 := h3.pop
      refine ev_mod (ev_int (ev_add (ev_add (ev_mul (at3 rfl h4) ev_c (mul_c (by omega) (by decide))) (ev_var rfl)) ev_c)) ev_c (by decide) _ (put3 rfl h4 fun H5 h5 => ?_)
      refine ev_gt (g := fun i j => decide (j ≤ i)) (ev_var rfl) (ev_pow ev_c ev_c (pow_c (n := 18) (by decide) (by decide))) ?_
      have ep : ((10 : Int) ^ ((18 : Int).toNat)) = 1000000000000000000 := by decide
      rw [ep]
      simp only [drawGo, if_true] at e2
      have b1 : 0 ≤ (mix * 6151 + (x.natAbs : Int) + 7) % 2147483629 := Int.emod_nonneg _ (by decide)
      have b2 : (mix * 6151 + (x.natAbs : Int) + 7) % 2147483629 < 2147483629 := Int.emod_lt_of_pos _ (by decide)
      by_cases hg : (1000000000000000000 : Int) ≤ (x.natAbs : Int)
      · rw [if_pos hg] at e2
        rw [decide_eq_true hg, if_pos rfl]
        exact ev_var rfl _ (put1 rfl h5 fun H6 h6 => ⟨r, _, _, _, rfl, rfl, h6, e2, b1, b2⟩)
      · rw [if_neg hg] at e2
        rw [decide_eq_false hg, if_neg Bool.false_ne_true]
        exact ev_c _ (put1 rfl h5 fun H6 h6 => ⟨r, _, _, _, rfl, rfl, h6, e2, b1, b2⟩)
end
end Sd

/-! Sd25: the draw's promise, the stream's, the law's. -/
namespace Sd
open PySem PySem.Spec PyProof.Rows L2
def drawN : List Str := ["stream", "many", "cell", "digit", "mixed"]
def cfDraw (as : List D) (s : List Stm) : Option (Fl × D × List Stm ⊕ Exn × List Stm) := match as with
  | [.stm g, .int many] => match s[g]? with
    | some t => (draw t many).map fun (i, t') => .inl (Fl.top, .int i, s.set g t')
    | none => none
  | _ => none
theorem cfDraw_inv {ds : List D} {s : List Stm} {o : Fl × D × List Stm ⊕ Exn × List Stm} (h : cfDraw ds s = some o) : ∃ g many t i t', ds = [.stm g, .int many] ∧ s[g]? = some t ∧ draw t many = some (i, t') ∧ o = .inl (Fl.top, .int i, s.set g t') := by
  unfold cfDraw at h
  split at h
  · rename_i g many
    split at h
    · rename_i t ht
      cases e : draw t many with
      | none => rw [e] at h; cases h
      | some p => rw [e] at h; cases h; exact ⟨g, many, t, p.1, p.2, rfl, ht, e, rfl⟩
    · cases h
  · cases h
theorem prim_draw {as : List D} {s : List Stm} : prim nDraw as s = cfDraw as s := by
  unfold prim cfDraw
  rw [if_pos rfl]
  all_goals rfl
structure DrFacts (K : PySem.W.Frag) (mg : Str → Option Value) (sc : Scope) (params : Arguments) (body : List Stmt) (f : Addr) (fd : FuncData) : Prop where
  ex : ∃ (oc : Value) (od : Option Addr) (kV doc pm : Value) (an : Option Addr) (cdv ct : Value) (osl : Array (Option Value)),
    fd = PySem.W.fnOf nDraw nDraw params body sc .none kV doc pm an cdv ct ∧ K.lookup f = some ⟨oc, od, .func fd, osl⟩ ∧ PySem.W.codeIn K cdv nDraw = true
  S : FnScope drawN ["stream", "many"] sc
  loc : ∀ x ∈ drawN, sc.names.lookup x = some .local
  ga : sc.names.lookup ("abs" : Str) = some .globalImplicit
  gi : sc.names.lookup ("int" : Str) = some .globalImplicit
  ma : mg "abs" = none
  mi : mg "int" = none
theorem nd_ne : ∀ {l : List (Addr × Addr)}, (l.flatMap fun p => [p.1, p.2]).Nodup → ∀ {p : Addr × Addr}, p ∈ l → p.1 ≠ p.2
  | [], _, _, h => by simp at h
  | r :: l, nd, p, hp => by
    simp only [List.flatMap_cons, List.cons_append, List.nil_append, List.nodup_cons, List.mem_cons, not_or] at nd
    rcases List.mem_cons.mp hp with rfl | hp
    · exact nd.1.1
    · exact nd_ne nd.2.2 hp
theorem nd_ix : ∀ {l : List (Addr × Addr)}, (l.flatMap fun p => [p.1, p.2]).Nodup → ∀ {i j : Nat} {p : Addr × Addr}, l[i]? = some p → l[j]? = some p → i = j
  | [], _, _, _, _, h, _ => by simp at h
  | r :: l, nd, 0, 0, _, _, _ => rfl
  | r :: l, nd, 0, j + 1, p, h1, h2 => by
    simp only [List.flatMap_cons, List.cons_append, List.nil_append, List.nodup_cons, List.mem_cons, not_or] at nd
    simp at h1; subst h1
    exact absurd (List.mem_flatMap.mpr ⟨r, List.mem_of_getElem? (by simpa using h2), by simp⟩) nd.1.2
  | r :: l, nd, i + 1, 0, p, h1, h2 => by
    simp only [List.flatMap_cons, List.cons_append, List.nil_append, List.nodup_cons, List.mem_cons, not_or] at nd
    simp at h2; subst h2
    exact absurd (List.mem_flatMap.mpr ⟨r, List.mem_of_getElem? (by simpa using h1), by simp⟩) nd.1.2
  | r :: l, nd, i + 1, j + 1, p, h1, h2 => by
    simp only [List.flatMap_cons, List.cons_append, List.nil_append, List.nodup_cons, List.mem_cons, not_or] at nd
    rw [nd_ix nd.2.2 (i := i) (j := j) (by simpa using h1) (by simpa using h2)]
theorem draw_fn {P : Program} {w : World} {K : PySem.W.Frag} {mg : Str → Option Value} {base : Heap} {ct : Ct} {k : Nat} {sc : Scope} {params : Arguments} {body : List Stmt} {f : Addr} {fd : FuncData} (F : DrFacts K mg sc params body f fd)
    {p1 p2 p3 p4 p5 p6 p7 p8 p9 p10 p11 p12 p13 p14 p15 p16 p17 p18 p19 p20 p21 p22 p23 p24 p25 p26 p27 p28 p29 p30 p31 p32 p33 p34 p35 p36 p37 p38 p39 p40 p41 p42 p43 p44 p45 p46 p47 p48 p49 p50 p51 p52 p53 p54 p55 p56 p57 p58 p59 p60 p61 p62 p63 p64 p65 p66 p67 p68 p69 p70 p71 p72 p73 p74 p75 p76 p77 p78 p79 p80 p81 p82 p83 p84 p85 p86 p87 p88 p89 p90 p91 p92 p93 p94 p95 p96 p97 p98 p99 p100 p101 p102 p103 p104 p105 p106 p107 p108 p109 p110 p111 p112 p113 p114 p115 p116 p117 p118 p119 p120 p121 p122 p123 p124 p125 : Pos} {k1 k2 k3 k4 k5 k6 k7 k8 k9 k10 k11 k12 k13 k14 k15 k16 k17 k18 k19 k20 k21 k22 k23 k24 k25 k26 k27 k28 k29 k30 k31 k32 k33 k34 : Nat} (hb : body = drawB p1 p2 p3 p4 p5 p6 p7 p8 p9 p10 p11 p12 p13 p14 p15 p16 p17 p18 p19 p20 p21 p22 p23 p24 p25 p26 p27 p28 p29 p30 p31 p32 p33 p34 p35 p36 p37 p38 p39 p40 p41 p42 p43 p44 p45 p46 p47 p48 p49 p50 p51 p52 p53 p54 p55 p56 p57 p58 p59 p60 p61 p62 p63 p64 p65 p66 p67 p68 p69 p70 p71 p72 p73 p74 p75 p76 p77 p78 p79 p80 p81 p82 p83 p84 p85 p86 p87 p88 p89 p90 p91 p92 p93 p94 p95 p96 p97 p98 p99 p100 p101 p102 p103 p104 p105 p106 p107 p108 p109 p110 p111 p112 p113 p114 p115 p116 p117 p118 p119 p120 p121 p122 p123 p124 p125 k1 k2 k3 k4 k5 k6 k7 k8 k9 k10 k11 k12 k13 k14 k15 k16 k17 k18 k19 k20 k21 k22 k23 k24 k25 k26 k27 k28 k29 k30 k31 k32 k33 k34) (hline : (p26.endLine == p28.line) = true) : FnG P w K mg base (L2.CX P w) (k + 1) f fd ["stream", "many"] (spF ct cfDraw 2) := by
  obtain ⟨oc, od, kV, doc, pm, an, cdv, ctv, osl, rfl, lk, hcd⟩ := F.ex
  subst hb
  refine fn_ofG lk hcd F.S (fun vs H Q E h => h.len) fun A outer s H vs Q E hr hsp => ?_
  have E1 : DrEnv (cxOf (L2.CX P w) P w K mg base drawN nDraw sc f cdv A outer s H E) := ⟨rfl, F.loc, F.ga, F.gi, F.ma, F.mi, rfl, ⟨k, hr⟩, passes_of rfl⟩
  obtain ⟨t, ht, run⟩ := draw_ps E1 (p1 := p1) (p2 := p2) (p3 := p3) (p4 := p4) (p5 := p5) (p6 := p6) (p7 := p7) (p8 := p8) (p9 := p9) (p10 := p10) (p11 := p11) (p12 := p12) (p13 := p13) (p14 := p14) (p15 := p15) (p16 := p16) (p17 := p17) (p18 := p18) (p19 := p19) (p20 := p20) (p21 := p21) (p22 := p22) (p23 := p23) (p24 := p24) (p25 := p25) (p26 := p26) (p27 := p27) (p28 := p28) (p29 := p29) (p30 := p30) (p31 := p31) (p32 := p32) (p33 := p33) (p34 := p34) (p35 := p35) (p36 := p36) (p37 := p37) (p38 := p38) (p39 := p39) (p40 := p40) (p41 := p41) (p42 := p42) (p43 := p43) (p44 := p44) (p45 := p45) (p46 := p46) (p47 := p47) (p48 := p48) (p49 := p49) (p50 := p50) (p51 := p51) (p52 := p52) (p53 := p53) (p54 := p54) (p55 := p55) (p56 := p56) (p57 := p57) (p58 := p58) (p59 := p59) (p60 := p60) (p61 := p61) (p62 := p62) (p63 := p63) (p64 := p64) (p65 := p65) (p66 := p66) (p67 := p67) (p68 := p68) (p69 := p69) (p70 := p70) (p71 := p71) (p72 := p72) (p73 := p73) (p74 := p74) (p75 := p75) (p76 := p76) (p77 := p77) (p78 := p78) (p79 := p79) (p80 := p80) (p81 := p81) (p82 := p82) (p83 := p83) (p84 := p84) (p85 := p85) (p86 := p86) (p87 := p87) (p88 := p88) (p89 := p89) (p90 := p90) (p91 := p91) (p92 := p92) (p93 := p93) (p94 := p94) (p95 := p95) (p96 := p96) (p97 := p97) (p98 := p98) (p99 := p99) (p100 := p100) (p101 := p101) (p102 := p102) (p103 := p103) (p104 := p104) (p105 := p105) (p106 := p106) (p107 := p107) (p108 := p108) (p109 := p109) (p110 := p110) (p111 := p111) (p112 := p112) (p113 := p113) (p114 := p114) (p115 := p115) (p116 := p116) (p117 := p117) (p118 := p118) (p119 := p119) (p120 := p120) (p121 := p121) (p122 := p122) (p123 := p123) (p124 := p124) (p125 := p125) (k1 := k1) (k2 := k2) (k3 := k3) (k4 := k4) (k5 := k5) (k6 := k6) (k7 := k7) (k8 := k8) (k9 := k9) (k10 := k10) (k11 := k11) (k12 := k12) (k13 := k13) (k14 := k14) (k15 := k15) (k16 := k16) (k17 := k17) (k18 := k18) (k19 := k19) (k20 := k20) (k21 := k21) (k22 := k22) (k23 := k23) (k24 := k24) (k25 := k25) (k26 := k26) (k27 := k27) (k28 := k28) (k29 := k29) (k30 := k30) (k31 := k31) (k32 := k32) (k33 := k33) (k34 := k34) hline
  refine ⟨t, ht, ?_⟩
  obtain ⟨sx, st, ds, A0, h1, h2, h3, h4, h5, h6⟩ := hsp
  cases e6 : cfDraw ds st with
  | none => rw [e6] at h6; exact h6.elim
  | some o =>
  obtain ⟨g, many, tt, i, tt', rfl, htt, hd, rfl⟩ := cfDraw_inv e6
  rw [e6] at h6
  obtain ⟨v1, r1, rfl, w1, h5⟩ := h5.inv
  obtain ⟨v2, r2, rfl, w2, h5⟩ := h5.inv
  simp only [Rps] at h5
  subst h5
  simp only [Rp] at w1 w2
  obtain ⟨⟨p, q⟩, hg, rfl⟩ := w1
  subst w2
  obtain ⟨a1, a2⟩ := h4.at_ g (p, q) tt hg htt
  have hmem := List.mem_of_getElem? hg
  have hne : p ≠ q := nd_ne h4.nd hmem
  have h6 : ∀ v H' sx' B, Aft sx (st.set g tt') sx' H H' → Back A0 Fl.top sx' H H' B → Rp sx' B (.int i) v → Q v H' := h6
  refine run _ H p q tt many i tt' ⟨a1, a2, hne, fun a o _ _ h => h⟩ hd fun H' hs => h6 (.int i) H' sx (fun _ => none) ?_ ⟨fun a o h => (by cases h), fun _ _ => ⟨rfl, rfl⟩, fun a o h => (by cases h), fun _ a o h => (by cases h)⟩ (by simp [Rp])
  refine ⟨Pre.refl _, ⟨by rw [List.length_set]; exact h4.len, fun g2 pq t2 e1 e2 => ?_, h4.nd⟩, fun q hq hn => absurd hq hn, fun a o h n => hs.keep a o (n _ hmem).1 (n _ hmem).2 h⟩
  by_cases hgg : g = g2
  · subst hgg
    rw [hg] at e1
    cases e1
    rw [List.getElem?_set_self (List.getElem?_eq_some_iff.mp htt).1] at e2
    cases e2
    exact ⟨hs.hp, hs.hq⟩
  · rw [List.getElem?_set_ne hgg] at e2
    obtain ⟨b1, b2⟩ := h4.at_ g2 pq t2 e1 e2
    have ap : ¬ ((pq.1 = p ∨ pq.1 = q) ∨ (pq.2 = p ∨ pq.2 = q)) := fun hh => by
      have e3 : pq = (p, q) := nd_apart h4.nd (List.mem_of_getElem? e1) hmem (by rcases hh with (hh | hh) | (hh | hh); exact .inl hh; exact .inr (.inl hh); exact .inr (.inr (.inl hh)); exact .inr (.inr (.inr hh)))
      subst e3
      exact hgg (nd_ix h4.nd hg e1)
    exact ⟨hs.keep _ _ (fun z => ap (.inl (.inl z))) (fun z => ap (.inl (.inr z))) b1, hs.keep _ _ (fun z => ap (.inr (.inl z))) (fun z => ap (.inr (.inr z))) b2⟩
end Sd

/-! Sd26: the stream, the law. -/
namespace Sd
open PySem PySem.Spec PyProof.Rows L2
abbrev streamB (p1 p2 p3 p4 p5 p6 p7 p8 : Pos) (k1 k2 k3 : Nat) : List Stmt :=
  [.Return (some (.List [(.Call (.Name "list" p1) [(.Name "script" p2)] [] p3), (.Constant (.int 0) k1 p4), (.Constant (.int 0) k2 p5), (.Constant (.int 19) k3 p6)] p7)) p8]
def spStream (K : PySem.W.Frag) : Sp := fun vs H Q E => ∃ a xs, vs = [.ref a] ∧ SqL K H a xs ∧ ∀ q p, H q = none → q ≠ p → H p = none → Q (.ref p) (upd (upd H q (.lst xs)) p (.lst [.ref q, .int 0, .int 0, .int 19]))
structure ScFacts (K : PySem.W.Frag) (mg : Str → Option Value) (x : Str) (N ps : List Str) (sc : Scope) (params : Arguments) (body : List Stmt) (f : Addr) (fd : FuncData) : Prop where
  ex : ∃ (oc : Value) (od : Option Addr) (kV doc pm : Value) (an : Option Addr) (cdv ct : Value) (osl : Array (Option Value)),
    fd = PySem.W.fnOf x x params body sc .none kV doc pm an cdv ct ∧ K.lookup f = some ⟨oc, od, .func fd, osl⟩ ∧ PySem.W.codeIn K cdv x = true
  S : FnScope N ps sc
theorem stream_fn {P : Program} {w : World} {K : PySem.W.Frag} {mg : Str → Option Value} {base : Heap} {k : Nat} {sc : Scope} {params : Arguments} {body : List Stmt} {f : Addr} {fd : FuncData} (F : ScFacts K mg "_law_stream" ["script"] ["script"] sc params body f fd)
    (hl : sc.names.lookup ("script" : Str) = some .local) (hg : sc.names.lookup ("list" : Str) = some .globalImplicit) (hm : mg "list" = none) {p1 p2 p3 p4 p5 p6 p7 p8 : Pos} {k1 k2 k3 : Nat} (hb : body = streamB p1 p2 p3 p4 p5 p6 p7 p8 k1 k2 k3) :
    FnG P w K mg base (L2.CX P w) (k + 1) f fd ["script"] (spStream K) := by
  obtain ⟨oc, od, kV, doc, pm, an, cdv, ctv, osl, rfl, lk, hcd⟩ := F.ex
  subst hb
  refine fn_ofG lk hcd F.S (fun vs H Q E ⟨a, xs, e, _⟩ => by rw [e]; rfl) fun A outer s H vs Q E hr ⟨a, xs, e, hs, h⟩ => ?_
  subst e
  have vs : PE (cxOf (L2.CX P w) P w K mg base ["script"] "_law_stream" sc f cdv A outer s H E) (.Name "script" p2) (tVar 0) := pe_var rfl (.inl hl)
  refine ⟨_, pss_one (ps_ret (pe_lst (pa_cons (pe_callTy call_list_of hg hm boot_list (pa_cons vs pa_nil)) (pa_cons pe_int (pa_cons pe_int (pa_cons pe_int pa_nil)))))), ?_⟩
  refine ⟨.ref a, rfl, a, xs, rfl, .inl hs, fun q hq => ?_⟩
  refine ⟨by rw [sizeLine_eq]; exact (by decide : 4 ≤ 16777216), fun p hp => ?_⟩
  obtain ⟨h1, h2⟩ := upd_none hp
  exact h q p hq (Ne.symm h2) h1
theorem perm_all {α : Type} {d : α} {ps : List Str} {as : List α} (h : as.length = ps.length) : perm d ps [] as [] = as := by
  unfold perm
  rw [List.drop_eq_nil_of_le (by omega)]
  simp
/-! ### the stream, as the evaluator has it -/
def cfStream (as : List D) (s : List Stm) : Option (Fl × D × List Stm ⊕ Exn × List Stm) := match as with
  | [.lst xs] => (intsOf xs).map fun ns => .inl (Fl.top, .stm s.length, s ++ [⟨ns, 0, 0, 19⟩])
  | _ => none
theorem prim_stream {as : List D} {s : List Stm} : prim nStream as s = cfStream as s := by
  unfold prim cfStream
  rw [if_neg (by decide), if_pos rfl]
  all_goals rfl
theorem strO_snoc {sx : List (Addr × Addr)} {s : List Stm} {H H' : Hp} {p q : Addr} {t : Stm} (h : StrO sx s H) (hp : H p = none) (hq : H q = none) (ne : q ≠ p) (k : ∀ a o, H a = some o → H' a = some o) (h1 : H' p = some (.lst [.ref q, .int t.cur, .int t.cnt, .int t.mix])) (h2 : H' q = some (.lst (t.cells.map V.int))) : StrO (sx ++ [(p, q)]) (s ++ [t]) H' := by
  have at0 : ∀ r ∈ sx, H r.1 ≠ none ∧ H r.2 ≠ none := fun r hr => by
    obtain ⟨g, hg⟩ := List.getElem?_of_mem hr
    have hl : g < s.length := by rw [← h.len]; exact (List.getElem?_eq_some_iff.mp hg).1
    obtain ⟨a, b⟩ := h.at_ g r _ hg (List.getElem?_eq_getElem hl)
    exact ⟨by rw [a]; exact (fun z => by cases z), by rw [b]; exact (fun z => by cases z)⟩
  refine ⟨by simp [h.len], fun g r u e1 e2 => ?_, ?_⟩
  · by_cases hg : g < sx.length
    · rw [List.getElem?_append_left hg] at e1
      rw [List.getElem?_append_left (by rw [← h.len]; exact hg)] at e2
      obtain ⟨a, b⟩ := h.at_ g r u e1 e2
      exact ⟨k _ _ a, k _ _ b⟩
    · rw [List.getElem?_append_right (by omega)] at e1
      rw [List.getElem?_append_right (by rw [← h.len]; omega), ← h.len] at e2
      cases e : g - sx.length with
      | zero =>
        rw [e] at e1 e2
        cases e1; cases e2
        exact ⟨h1, h2⟩
      | succ n => rw [e] at e1; simp at e1
  · rw [List.flatMap_append, List.nodup_append]
    refine ⟨h.nd, by simp [Ne.symm ne], fun a ha b hb e => ?_⟩
    subst e
    obtain ⟨r, hr, hm⟩ := List.mem_flatMap.mp ha
    obtain ⟨n1, n2⟩ := at0 r hr
    simp only [List.flatMap_cons, List.flatMap_nil, List.append_nil, List.mem_cons, List.not_mem_nil, or_false] at hb hm
    rcases hm with rfl | rfl <;> rcases hb with e | e
    · exact n1 (by rw [e]; exact hp)
    · exact n1 (by rw [e]; exact hq)
    · exact n2 (by rw [e]; exact hp)
    · exact n2 (by rw [e]; exact hq)
theorem stream_row {P : Program} {w : World} {K : PySem.W.Frag} {mg : Str → Option Value} {base : Heap} {ct : Ct} {k : Nat} {f : Addr} {fd : FuncData} {CX : CXT} (F : FnG P w K mg base CX k f fd ["script"] (spStream K)) : FnG P w K mg base CX k f fd ["script"] (spF ct cfStream 1) := by
  have imp : ∀ vs H Q E, spF ct cfStream 1 vs H Q E → spStream K vs H Q E := fun vs H Q E ⟨sx, s, ds, A, h1, h2, h3, h4, h5, h6⟩ => by
    cases e6 : cfStream ds s with
    | none => rw [e6] at h6; exact h6.elim
    | some o =>
      unfold cfStream at e6
      split at e6
      · rename_i xs
        cases e7 : intsOf xs with
        | none => rw [e7] at e6; cases e6
        | some ns =>
          rw [e7] at e6
          cases e6
          have hx := intsOf_inv e7
          subst hx
          obtain ⟨v, r, rfl, w1, h5⟩ := h5.inv
          simp only [Rps] at h5
          subst h5
          simp only [Rp] at w1
          obtain ⟨a, vs, rfl, ha, hv⟩ := w1
          have hv := hv.ints_inv
          subst hv
          have h6 : ∀ v H' sx' B, Aft sx (s ++ [⟨ns, 0, 0, 19⟩]) sx' H H' → Back A Fl.top sx' H H' B → Rp sx' B (.stm s.length) v → Q v H' := by simpa only [cfStream, e7, Option.map_some] using h6
          refine ⟨a, _, rfl, SqL.of (h2 _ _ ha), fun q p hq hqp hp => h6 (.ref p) _ (sx ++ [(p, q)]) (fun _ => none) ⟨⟨_, rfl⟩, strO_snoc h4 hp hq hqp (fun a o h => by rw [upd_ne (ne_of_none h hp), upd_ne (ne_of_none h hq)]; exact h) upd_same (by rw [upd_ne hqp, upd_same]), fun r hr hn => ?_, fun a o h _ => by rw [upd_ne (ne_of_none h hp), upd_ne (ne_of_none h hq)]; exact h⟩ ⟨fun a o h => (by cases h), fun _ _ => ⟨rfl, rfl⟩, fun a o h => (by cases h), fun _ a o h => (by cases h)⟩ ?_⟩
          · rcases List.mem_append.mp hr with hr | hr
            · exact absurd hr hn
            · simp only [List.mem_singleton] at hr
              subst hr
              exact ⟨hp, hq⟩
          · simp only [Rp]
            exact ⟨(p, q), by rw [← h4.len]; simp, rfl⟩
      · cases e6
  exact F.imp imp
def spLaw (K : PySem.W.Frag) : Sp := fun vs H Q E => ∃ (a : Addr) (ns : List Int), vs = [.ref a] ∧ SqL K H a (ns.map V.int) ∧ ns.length ≤ 63 ∧ ∀ H', Q (.bl true) H'
/-- the slots behind the law's first row -/
def lawR (n : Nat) : List Slot := .un :: .sh Fl.top (.stm 0) :: List.replicate n .un
theorem law_fn {P : Program} {w : World} {K : PySem.W.Frag} {mg : Str → Option Value} {base : Heap} {us : List Str} {ct : Ct} {cl : Caller} {sg : Sig} {k : Nat} {a : Ann} {params : Arguments} {rest : List Stmt} {sc : Scope} {f : Addr} {fd : FuncData} {Nr : List Str} {q1 q2 q3 q4 q5 : Pos}
    (M : ModEnv P w K mg base us ct cl sg k) (F : FnFacts K "law" a ["script"] params (.Assign [.Name "stream" q1] (.Call (.Name "_law_stream" q2) [.Name "script" q3] [] q4) q5 :: rest) sc f fd) (hN : a.N = ("script" : Str) :: ("stream" : Str) :: Nr)
    (hst : ∃ fa fdS, mg "_law_stream" = some (.ref fa) ∧ PySem.W.keepIn K (.ref fa) = true ∧ PlainPs fdS.params ∧ fdS.defaults = .none ∧ fdS.params.args.map (·.arg) = (["script"] : List Str) ∧ FnG P w K mg base (L2.CX P w) k fa fdS ["script"] (spStream K))
    (g1 : sc.names.lookup ("_law_stream" : Str) = some .globalImplicit) (l1 : isSto sc "script" = true) (l2 : isSto sc "stream" = true)
    (law : ∀ ns : List Int, ns.length ≤ 63 → ∃ f c', exL cl sg 1 false (cL us a 200 sc rest) ⟨lawR Nr.length, [⟨ns, 0, 0, 19⟩]⟩ = .rt f (.bl true) c') :
    FnG P w K mg base (L2.CX P w) (k + 1) f fd ["script"] (spLaw K) := by
  obtain ⟨oc, od, kV, doc, pm, an, cdv, ctv, osl, rfl, lk, hcd⟩ := F.ex
  refine fn_ofG lk hcd F.S (fun vs H Q E ⟨a, ns, e, _⟩ => by rw [e]; rfl) fun A outer s H vs Q E hr ⟨ad, ns, e, hs, hlen, hq⟩ => ?_
  subst e
  have tk : Takes (cxOf (L2.CX P w) P w K mg base a.N "law" sc f cdv A outer s H E) (fun cls d _ H => E cls d H) := takes_of rfl rfl rfl rfl
  have env : DefEnv (cxOf (L2.CX P w) P w K mg base a.N "law" sc f cdv A outer s H E) us a ct cl sg k (fun cls d _ H => E cls d H) sc :=
    ⟨⟨rfl, F.S.nd, rfl, hr, M.blt, fun x hx => ⟨M.cals x hx⟩, M.nodbg⟩, rfl, F.S.kind, ⟨rfl, F.S.nd, fun z hz => ⟨isSto_loc hz, .inl rfl⟩⟩, passes_of rfl, tk, M.spoil _ rfl rfl rfl rfl rfl hr rfl _ tk⟩
  obtain ⟨fa, fdS, s1, s2, s3, s4, s5, s6⟩ := hst
  have n0 : (cxOf (L2.CX P w) P w K mg base a.N "law" sc f cdv A outer s H E).N[0]? = some ("script" : Str) := by show a.N[0]? = _; rw [hN]; rfl
  have n1 : (cxOf (L2.CX P w) P w K mg base a.N "law" sc f cdv A outer s H E).N[1]? = some ("stream" : Str) := by show a.N[1]? = _; rw [hN]; rfl
  have vs : PE (cxOf (L2.CX P w) P w K mg base a.N "law" sc f cdv A outer s H E) (.Name "script" q3) (tVar 0) := pe_var n0 (isSto_vis l1)
  have g1' : Gl (cxOf (L2.CX P w) P w K mg base a.N "law" sc f cdv A outer s H E) "_law_stream" := g1
  have call := pe_callP (X := cxOf (L2.CX P w) P w K mg base a.N "law" sc f cdv A outer s H E) (pos := q4) (p := q2) (ks := []) (E := WE fun cls d _ H => E cls d H) s6 hr g1' s1 s2 s3 s4 s5 (by decide) (fun σ => passAt tk σ) (pa_cons vs pa_nil rfl) pk_nil rfl rfl (by decide) rfl (fun e => by cases e)
  refine ⟨_, pss_cons (ps_set F.S.nd n1 (isSto_loc l2) call rfl (.inl rfl)) ((st_all env 200 1 false).2 rest), ?_⟩
  have st0 : (L2.start a.N [V.ref ad])[0]? = some (some (.ref ad)) := start_get rfl
  refine ⟨.ref ad, st0, (by decide : permOk ["script"] [] 1 0 = true), ?_⟩
  rw [perm_all (as := [V.ref ad]) (ps := ["script"]) rfl]
  refine ⟨ad, _, rfl, hs, fun q p hq1 hqp hp1 => ?_⟩
  show tL ct cl sg _ 1 false (cL us a 200 sc rest) _ ((L2.start a.N [V.ref ad]).set 1 (some (.ref p))) _
  obtain ⟨fl, c', he⟩ := law ns hlen
  have hlenN : (L2.start a.N [V.ref ad]).length = a.N.length := by
    unfold L2.start
    have : 1 ≤ a.N.length := by rw [hN]; simp
    simp; omega
  refine ⟨⟨fun _ => none, fun _ => none, fun _ _ => none, [(p, q)]⟩, ⟨lawR Nr.length, [⟨ns, 0, 0, 19⟩]⟩, ?_, ?_⟩
  · refine ⟨Nat.le_refl _, fun a h => absurd rfl h, ⟨fun _ _ _ => Sub.refl _, fun _ _ => rfl⟩, fun a o h => (by cases h), fun a o h => (by cases h), fun a h => absurd rfl h, fun a o h => (by cases h), fun i sl hi => ?_, fun i j r ⟨⟨f, d, h⟩, _⟩ => ?_, ⟨rfl, fun g pq t e1 e2 => ?_, fun _ _ => ⟨rfl, rfl, rfl, rfl⟩, ?_⟩, ?_⟩
    · have hi : (lawR Nr.length)[i]? = some sl := hi
      unfold lawR at hi
      match i, hi with
      | 0, hi => cases hi; trivial
      | 1, hi =>
        cases hi
        refine ⟨.ref p, getD_set_self (by rw [hlenN, hN]; simp), ?_⟩
        simp only [Rp]
        exact ⟨(p, q), rfl, rfl⟩
      | i + 2, hi =>
        have hi : (List.replicate Nr.length Slot.un)[i]? = some sl := hi
        rw [List.getElem?_replicate] at hi
        split at hi
        · cases hi; trivial
        · cases hi
    · have h : (lawR Nr.length)[i]? = some (.ow f d) := h
      unfold lawR at h
      match i, h with
      | 0, h => cases h
      | 1, h => cases h
      | i + 2, h =>
        have h : (List.replicate Nr.length Slot.un)[i]? = some (.ow f d) := h
        rw [List.getElem?_replicate] at h
        split at h <;> cases h
    · match g, e1, e2 with
      | 0, e1, e2 =>
        cases e1; cases e2
        exact ⟨upd_same, by rw [upd_ne hqp, upd_same]⟩
      | g + 1, e1, _ => simp at e1
    · simp [Ne.symm hqp]
    · show (lawR Nr.length).length = ((L2.start a.N [V.ref ad]).set 1 (some (.ref p))).length
      rw [List.length_set, hlenN, hN]
      simp [lawR]
  · rw [he]
    exact fun y' σ' v H' x s r => by
      have e : v = .bl true := by simpa only [Rp] using r
      rw [e]; exact hq H'
end Sd

/-! Sd27: all defs, by how deep calls may go. -/
namespace Sd
open PySem PySem.Spec PyProof.Rows L2
/-- a def of the text, in the program -/
structure DefRow (K : PySem.W.Frag) (mg : Str → Option Value) (us : List Str) (Pr : Pg) (x : Str) : Prop where
  ex : ∃ (a : Ann) (ps : List Str) (params : Arguments) (body : List Stmt) (sc : Scope) (f : Addr) (fd : FuncData), FnFacts K x a ps params body sc f fd ∧ mg x = some (.ref f) ∧ PySem.W.keepIn K (.ref f) = true ∧ PlainPs params ∧ params.args.map (·.arg) = ps ∧ ps.Nodup ∧ Pr.lookup x = some ⟨ps, a.N, cL us a 200 sc body⟩
/-- the draw -/
structure DrawRow (P : Program) (w : World) (K : PySem.W.Frag) (mg : Str → Option Value) (base : Heap) (ct : Ct) (Pr : Pg) : Prop where
  no : Pr.lookup nDraw = none
  ex : ∃ (f : Addr) (fd : FuncData), mg nDraw = some (.ref f) ∧ PySem.W.keepIn K (.ref f) = true ∧ PlainPs fd.params ∧ fd.defaults = .none ∧ fd.params.args.map (·.arg) = (["stream", "many"] : List Str) ∧ ∀ k, FnG P w K mg base (L2.CX P w) (k + 1) f fd ["stream", "many"] (spF ct cfDraw 2)
structure StrmRow (P : Program) (w : World) (K : PySem.W.Frag) (mg : Str → Option Value) (base : Heap) (ct : Ct) (Pr : Pg) : Prop where
  no : Pr.lookup nStream = none
  ex : ∃ (f : Addr) (fd : FuncData), mg nStream = some (.ref f) ∧ PySem.W.keepIn K (.ref f) = true ∧ PlainPs fd.params ∧ fd.defaults = .none ∧ fd.params.args.map (·.arg) = (["script"] : List Str) ∧ ∀ k, FnG P w K mg base (L2.CX P w) (k + 1) f fd ["script"] (spF ct cfStream 1)
def Spoils (P : Program) (w : World) (K : PySem.W.Frag) (mg : Str → Option Value) (base : Heap) (ct : Ct) (k : Nat) : Prop :=
  ∀ (cl : Caller) (sg : Sig) (X : Cx), X.prog = P → X.w = w → X.K = K → X.mg = mg → X.base = base → RoomG k X.A → X.calm = true → ∀ (W : WX), Takes X W → Gl X "_law_spoilt" → ∀ (lv : Nat) (x : Expr) (i : IE) (p pos pos2 : Pos), isStar x = false → PE X x (tE ct cl sg W lv i) →
    PS X (.Expr (.Call (.Name "_law_spoilt" p) [x] [] pos) pos2) (tS ct cl sg W lv true (.spoil i))
theorem all_env {P : Program} {w : World} {K : PySem.W.Frag} {mg : Str → Option Value} {base : Heap} {us : List Str} {ct : Ct} {Pr : Pg} {k0 : Nat} (blt : ∀ x ∈ bnames, mg x = none) (nodbg : ("__debug__" : Str) ∉ us)
    (rows : ∀ x ∈ us, x ≠ nDraw → x ≠ nStream → DefRow K mg us Pr x) (dr : DrawRow P w K mg base ct Pr) (sr : nStream ∈ us → StrmRow P w K mg base ct Pr) (sp : Spoils P w K mg base ct k0) : ∀ n, ModEnv P w K mg base us ct (callF Pr n) (sgOf Pr) (k0 + n)
  | 0 => by
    refine ⟨blt, nodbg, fun x hx => ?_, fun X h1 h2 h3 h4 h5 hr hc W tk hg => sp _ _ X h1 h2 h3 h4 h5 hr hc W tk hg⟩
    have e0 : ∀ n, spF ct (callF Pr 0 x) n = spF ct (fun _ _ => none) n := fun n => rfl
    by_cases hd : x = nDraw
    · subst hd
      obtain ⟨f, fd, d1, d2, d3, d4, d5, d6⟩ := dr.ex
      have es : sgOf Pr nDraw = (["stream", "many"] : List Str) := by unfold sgOf; rw [dr.no]; rfl
      rw [es]
      exact ⟨f, fd, d1, d2, d3, d4, d5, by decide, by rw [e0]; exact fn_none⟩
    by_cases hs : x = nStream
    · subst hs
      obtain ⟨no, f, fd, d1, d2, d3, d4, d5, d6⟩ := sr hx
      have es : sgOf Pr nStream = (["script"] : List Str) := by unfold sgOf; rw [no]; rfl
      rw [es]
      exact ⟨f, fd, d1, d2, d3, d4, d5, by decide, by rw [e0]; exact fn_none⟩
    · obtain ⟨a, ps, params, body, sc, f, fd, F, d1, d2, d3, d4, d5, d6⟩ := (rows x hx hd hs).ex
      have es : sgOf Pr x = ps := by unfold sgOf; rw [d6]
      have efd : fd.params = params ∧ fd.defaults = .none := by obtain ⟨_, _, _, _, _, _, _, _, _, rfl, _⟩ := F.ex; exact ⟨rfl, rfl⟩
      rw [es]
      exact ⟨f, fd, d1, d2, by rw [efd.1]; exact d3, efd.2, by rw [efd.1]; exact d4, d5, by rw [e0]; exact fn_none⟩
  | n + 1 => by
    have M := all_env blt nodbg rows dr sr sp n
    refine ⟨blt, nodbg, fun x hx => ?_, fun X h1 h2 h3 h4 h5 hr hc W tk hg => sp _ _ X h1 h2 h3 h4 h5 (hr.mono (by omega)) hc W tk hg⟩
    by_cases hd : x = nDraw
    · subst hd
      obtain ⟨f, fd, d1, d2, d3, d4, d5, d6⟩ := dr.ex
      have es : sgOf Pr nDraw = (["stream", "many"] : List Str) := by unfold sgOf; rw [dr.no]; rfl
      have ec : callF Pr (n + 1) nDraw = cfDraw := by
        funext as s
        simp only [callF, dr.no]
        exact prim_draw
      rw [es, ec]
      exact ⟨f, fd, d1, d2, d3, d4, d5, by decide, d6 _⟩
    by_cases hs : x = nStream
    · subst hs
      obtain ⟨no, f, fd, d1, d2, d3, d4, d5, d6⟩ := sr hx
      have es : sgOf Pr nStream = (["script"] : List Str) := by unfold sgOf; rw [no]; rfl
      have ec : callF Pr (n + 1) nStream = cfStream := by
        funext as s
        simp only [callF, no]
        exact prim_stream
      rw [es, ec]
      exact ⟨f, fd, d1, d2, d3, d4, d5, by decide, d6 _⟩
    · obtain ⟨a, ps, params, body, sc, f, fd, F, d1, d2, d3, d4, d5, d6⟩ := (rows x hx hd hs).ex
      have es : sgOf Pr x = ps := by unfold sgOf; rw [d6]
      have efd : fd.params = params ∧ fd.defaults = .none := by obtain ⟨_, _, _, _, _, _, _, _, _, rfl, _⟩ := F.ex; exact ⟨rfl, rfl⟩
      rw [es]
      refine ⟨f, fd, d1, d2, by rw [efd.1]; exact d3, efd.2, by rw [efd.1]; exact d4, d5, fn_ok M F fun as s => ?_⟩
      simp only [callF, d6]
end Sd

/-! Sd28: what is spoilt. -/
namespace Sd
open PySem PySem.Spec PyProof.Rows L2
abbrev spoilB (p1 p2 p3 p4 p5 p6 p7 p8 p9 p10 p11 p12 p13 p14 p15 p16 p17 p18 p19 p20 p21 p22 p23 p24 p25 p26 p27 p28 p29 p30 p31 p32 p33 p34 p35 p36 p37 p38 p39 p40 p41 p42 p43 p44 p45 : Pos) (k1 k2 k3 k4 : Nat) : List Stmt := [
  .If (.Call (.Name "isinstance" p1) [(.Name "thing" p2), (.Name "dict" p3)] [] p4) [.For (.Name "key" p5) (.Call (.Name "list" p6) [(.Name "thing" p7)] [] p8) [.Expr (.Call (.Name "_law_spoilt" p9) [(.Subscript (.Name "thing" p10) (.Name "key" p11) p12)] [] p13) p14] [] p15, .Assign [(.Subscript (.Name "thing" p16) (.Constant (.str "late") k1 p17) p18)] (.Constant (.int 1) k2 p19) p20] [] p21,
  .If (.Call (.Name "isinstance" p22) [(.Name "thing" p23), (.Tuple [(.Name "list" p24), (.Name "tuple" p25)] k3 p26)] [] p27) [.For (.Name "part" p28) (.Name "thing" p29) [.Expr (.Call (.Name "_law_spoilt" p30) [(.Name "part" p31)] [] p32) p33] [] p34] [] p35,
  .If (.Call (.Name "isinstance" p36) [(.Name "thing" p37), (.Name "list" p38)] [] p39) [.Expr (.Call (.Attribute (.Name "thing" p40) "append" p41) [(.Constant (.str "late") k4 p42)] [] p43) p44] [] p45]
/-! ### ranks -/
def okv (R : Nat → Addr → Prop) (m : Nat) : V → Prop
  | .ref b => R m b
  | .non => True | .bl _ => True | .int _ => True | .str _ => True
  | _ => False
def late : V := .str "late"
/-- each address of a rank: what stands there, what weighs it -/
def OkH (S : Addr → Prop) (R : Nat → Addr → Prop) (wt : V → Nat) (H : Hp) : Prop := ∀ m a, R m a → ∃ k vs, m = k + 1 ∧ (H a = some (.tup vs) ∨ (S a ∧ H a = some (.lst vs))) ∧ (∀ u ∈ vs, okv R k u) ∧ 1 + (vs.map wt).sum ≤ wt (.ref a)
/-- b more may be put to each list -/
def OkL (R : Nat → Addr → Prop) (H : Hp) (b : Nat) : Prop := ∀ m a vs, R m a → H a = some (.lst vs) → vs.length + b ≤ sizeLine
def Gr (S : Addr → Prop) (R : Nat → Addr → Prop) (n b : Nat) (H H' : Hp) : Prop := ∀ a o, H a = some o → H' a = some o ∨ (S a ∧ R n a ∧ ∃ vs j, j ≤ b ∧ o = .lst vs ∧ H' a = some (.lst (vs ++ List.replicate j late)))
section
variable {S : Addr → Prop} {R : Nat → Addr → Prop} {wt : V → Nat} {n b b' : Nat} {H H' H'' : Hp}
theorem Gr.refl : Gr S R n b H H := fun a o h => .inl h
theorem Gr.of (h : Sub H H') : Gr S R n b H H' := fun a o e => .inl (h a o e)
theorem Gr.trans (g : Gr S R n b H H') (g' : Gr S R n b' H' H'') : Gr S R n (b + b') H H'' := fun a o h => by
  rcases g a o h with h1 | ⟨h1, h2, vs, j, hj, rfl, h3⟩
  · rcases g' a o h1 with h2 | ⟨h2, h3, vs, j, hj, e, h4⟩
    · exact .inl h2
    · exact .inr ⟨h2, h3, vs, j, by omega, e, h4⟩
  · rcases g' a _ h3 with h4 | ⟨_, _, vs', j', hj', e, h5⟩
    · exact .inr ⟨h1, h2, vs, j, by omega, rfl, h4⟩
    · cases e
      exact .inr ⟨h1, h2, vs, j + j', by omega, rfl, by rw [h5, List.append_assoc, List.replicate_append_replicate]⟩
theorem Gr.up (mono : ∀ a, R n a → R (n + 1) a) (g : Gr S R n b H H') : Gr S R (n + 1) b H H' := fun a o h => by
  rcases g a o h with h1 | ⟨h1, h2, h3⟩
  · exact .inl h1
  · exact .inr ⟨h1, mono a h2, h3⟩
theorem Gr.more (hb : b ≤ b') (g : Gr S R n b H H') : Gr S R n b' H H' := fun a o h => by
  rcases g a o h with h1 | ⟨h1, h2, vs, j, hj, h3⟩
  · exact .inl h1
  · exact .inr ⟨h1, h2, vs, j, by omega, h3⟩
theorem OkH.gr (w0 : wt late = 0) (k : OkH S R wt H) (g : Gr S R n b H H') : OkH S R wt H' := fun m a h => by
  obtain ⟨i, vs, e, h1, h2, hw⟩ := k m a h
  rcases h1 with h1 | ⟨h0, h1⟩
  · rcases g a _ h1 with h3 | ⟨_, _, _, _, _, z, _⟩
    · exact ⟨i, vs, e, .inl h3, h2, hw⟩
    · cases z
  · rcases g a _ h1 with h3 | ⟨_, _, ws, j, _, z, h3⟩
    · exact ⟨i, vs, e, .inr ⟨h0, h3⟩, h2, hw⟩
    · cases z
      refine ⟨i, _, e, .inr ⟨h0, h3⟩, fun u hu => ?_, ?_⟩
      · rcases List.mem_append.mp hu with hu | hu
        · exact h2 u hu
        · rw [(List.mem_replicate.mp hu).2]; trivial
      · have z : ((List.replicate j late).map wt).sum = 0 := by
          rw [List.map_replicate, w0, List.sum_replicate_nat]; simp
        rw [List.map_append, List.sum_append, z]; exact hw
theorem OkL.gr (k : OkH S R wt H) (l : OkL R H (b + b')) (g : Gr S R n b H H') : OkL R H' b' := fun m a vs hr h => by
  obtain ⟨i, ws, e, h1, _⟩ := k m a hr
  have same : ∀ o, H a = some o → H' a = some o → vs.length + b' ≤ sizeLine := fun o h2 h3 => by
    rw [h] at h3; cases h3
    have := l m a vs hr h2; omega
  rcases h1 with h1 | ⟨_, h1⟩
  · rcases g a _ h1 with h3 | ⟨_, _, _, _, _, z, _⟩
    · exact same _ h1 h3
    · cases z
  · rcases g a _ h1 with h3 | ⟨_, _, us, j, hj, z, h3⟩
    · exact same _ h1 h3
    · cases z
      rw [h] at h3; cases h3
      have := l m a ws hr h1
      rw [List.length_append, List.length_replicate]; omega
end
/-- what is spoilt is of the rank n -/
def spSpoil (n : Nat) : Sp := fun vs H Q E => ∃ v S R wt, vs = [v] ∧ okv R n v ∧ OkH S R wt H ∧ OkL R H (wt v) ∧ wt late = 0 ∧ (∀ m a, R m a → R (m + 1) a) ∧ ∀ H', Gr S R n (wt v) H H' → Q .non H'
structure SpFacts (K : PySem.W.Frag) (mg : Str → Option Value) (sc : Scope) (params : Arguments) (body : List Stmt) (f : Addr) (fd : FuncData) : Prop where
  ex : ∃ (oc : Value) (od : Option Addr) (kV doc pm : Value) (an : Option Addr) (cdv ct : Value) (osl : Array (Option Value)),
    fd = PySem.W.fnOf "_law_spoilt" "_law_spoilt" params body sc .none kV doc pm an cdv ct ∧ K.lookup f = some ⟨oc, od, .func fd, osl⟩ ∧ PySem.W.codeIn K cdv "_law_spoilt" = true
  S : FnScope (["thing", "key", "part"] : List Str) ["thing"] sc
  lt : sc.names.lookup ("thing" : Str) = some .local
  lp : sc.names.lookup ("part" : Str) = some .local
  gi : sc.names.lookup ("isinstance" : Str) = some .globalImplicit
  gl : sc.names.lookup ("list" : Str) = some .globalImplicit
  gt : sc.names.lookup ("tuple" : Str) = some .globalImplicit
  gd : sc.names.lookup ("dict" : Str) = some .globalImplicit
  gs : sc.names.lookup ("_law_spoilt" : Str) = some .globalImplicit
  mi : mg "isinstance" = none
  ml : mg "list" = none
  mt : mg "tuple" = none
  md : mg "dict" = none
  ms : mg "_law_spoilt" = some (.ref f)
  kp : PySem.W.keepIn K (.ref f) = true
  pl : PlainPs params
  pa : params.args.map (·.arg) = (["thing"] : List Str)
/-- what kind of thing v is, as data of one level -/
def sh1 : V → Hp → D
  | .non, _ => .non
  | .bl b, _ => .bl b
  | .int i, _ => .int i
  | .str x, _ => .str x
  | .ref a, H => match H a with
    | some (.tup _) => .tup []
    | _ => .lst []
  | _, _ => .non
theorem tyx_sh {K : PySem.W.Frag} {S : Addr → Prop} {R : Nat → Addr → Prop} {wt : V → Nat} {n : Nat} {H : Hp} {v : V} (k : OkH S R wt H) (h : okv R n v) : TyX K H v (.type (dS (sh1 v H))) ∧ opq (sh1 v H) = false := by
  cases v with
  | non => exact ⟨.base .non, rfl⟩
  | bl b => exact ⟨.base (.bl b), rfl⟩
  | int b => exact ⟨.base (.int b), rfl⟩
  | str b => exact ⟨.base (.str b), rfl⟩
  | ref a =>
    obtain ⟨i, vs, _, h1, _⟩ := k n a h
    rcases h1 with h1 | ⟨_, h1⟩
    · simp only [sh1, h1]; exact ⟨.base (.tup h1), rfl⟩
    · simp only [sh1, h1]; exact ⟨.base (.lst h1), rfl⟩
  | _ => exact h.elim
end Sd

/-! Sd29: `_law_spoilt`. -/
namespace Sd
open PySem PySem.Spec PyProof.Rows L2
section
variable {X : Cx}
structure SpEnv (X : Cx) : Prop where
  N : X.N = (["thing", "key", "part"] : List Str)
  lt : X.env.scope.names.lookup ("thing" : Str) = some .local
  lp : X.env.scope.names.lookup ("part" : Str) = some .local
  gi : Gl X "isinstance"
  gl : Gl X "list"
  gt : Gl X "tuple"
  gd : Gl X "dict"
  mi : X.mg "isinstance" = none
  ml : X.mg "list" = none
  mt : X.mg "tuple" = none
  md : X.mg "dict" = none
  calm : X.calm = true
  pass : PassesOwn (model X.prog X.w) X.A X.env X.xe
theorem SpEnv.v (E : SpEnv X) {p : Pos} : PE X (.Name "thing" p) (tVar 0) := pe_var (by rw [E.N]; rfl) (.inl E.lt)
theorem SpEnv.vp (E : SpEnv X) {p : Pos} : PE X (.Name "part" p) (tVar 2) := pe_var (by rw [E.N]; rfl) (.inl E.lp)
theorem boot_isi : bootBuiltins "isinstance" = some (.builtin "isinstance") := by with_unfolding_all decide +kernel
/-- isinstance(thing, T) -/
def tIs1 (K : PySem.W.Frag) (t : Ty) : TT := fun σ H Q => (tCB (rIsi K) (tCons (tVar 0) (tCons (tC (V.ty (tyS t))) tNil))) σ H fun x H' => ∃ k, TruV K x H' k ∧ Q k H'
theorem SpEnv.isList (E : SpEnv X) {p q r c : Pos} : PT X (.Call (.Name "isinstance" p) [.Name "thing" q, .Name "list" r] [] c) (tIs1 X.K .list) :=
  pt_truth (pe_callB call_isi E.gi E.mi boot_isi (pa_cons E.v (pa_cons (pe_bltn E.gl E.ml (boot_ty .list) rfl) pa_nil))) fun _ => rfl
theorem SpEnv.isDict (E : SpEnv X) {p q r c : Pos} : PT X (.Call (.Name "isinstance" p) [.Name "thing" q, .Name "dict" r] [] c) (tIs1 X.K .dict) :=
  pt_truth (pe_callB call_isi E.gi E.mi boot_isi (pa_cons E.v (pa_cons (pe_bltn E.gd E.md (boot_ty .dict) rfl) pa_nil))) fun _ => rfl
def tIs2 (K : PySem.W.Frag) : TT := fun σ H Q => (tCB (rIsiT K) (tCons (tVar 0) (tCons (tTup (tCons (tC (V.ty (tyS .list))) (tCons (tC (V.ty (tyS .tuple))) tNil))) tNil))) σ H fun x H' => ∃ k, TruV K x H' k ∧ Q k H'
theorem SpEnv.isSeq (E : SpEnv X) {p q r r2 t c : Pos} {j : Nat} : PT X (.Call (.Name "isinstance" p) [.Name "thing" q, .Tuple [.Name "list" r, .Name "tuple" r2] j t] [] c) (tIs2 X.K) :=
  pt_truth (pe_callB call_isiT E.gi E.mi boot_isi (pa_cons E.v (pa_cons (pe_tup (pa_cons (pe_bltn E.gl E.ml (boot_ty .list) rfl) (pa_cons (pe_bltn E.gt E.mt (boot_ty .tuple) rfl) pa_nil))) pa_nil))) fun _ => rfl
end
section
variable {K : PySem.W.Frag} {S : Addr → Prop} {R : Nat → Addr → Prop} {wt : V → Nat} {n : Nat} {σ : L2.St} {H : Hp} {v : V} {Q : Bool → Hp → Prop}
theorem is1_run {t : Ty} (k : OkH S R wt H) (h : okv R n v) (h0 : σ[0]? = some (some v)) (q : Q (isTy t (sh1 v H)) H) : tIs1 K t σ H Q := by
  obtain ⟨ty, nd⟩ := tyx_sh (K := K) k h
  exact ⟨v, h0, v, V.ty (tyS t), _, _, _, rfl, .ty _, ty, kit_tab K t _ nd, _, rfl, q⟩
theorem is2_run (k : OkH S R wt H) (w0 : wt late = 0) (h : okv R n v) (h0 : σ[0]? = some (some v)) (q : ∀ p cs, H p = none → Q (isTy .list (sh1 v H) || isTy .tuple (sh1 v H)) (upd H p (.tup cs))) : tIs2 K σ H Q := by
  refine ⟨v, h0, by rw [sizeLine_eq]; exact (by decide : 2 ≤ 16777216), fun p hp => ?_⟩
  have k1 := k.gr (n := 0) (b := 0) w0 (Gr.of (Sub.to_upd (o := .tup [V.ty (tyS .list), V.ty (tyS .tuple)]) hp))
  obtain ⟨ty, nd⟩ := tyx_sh (K := K) k1 h
  have es : sh1 v (upd H p (.tup [V.ty (tyS .list), V.ty (tyS .tuple)])) = sh1 v H := by
    cases v <;> first | rfl | skip
    rename_i a
    obtain ⟨_, _, _, h1, _⟩ := k n a h
    have : a ≠ p := by
      rcases h1 with h1 | ⟨_, h1⟩
      · exact ne_of_none h1 hp
      · exact ne_of_none h1 hp
    simp only [sh1, upd_ne this]
  rw [es] at ty nd
  refine ⟨v, p, _, _, _, _, rfl, upd_same, clsv_tys [.list, .tuple], ty, kitAny_tab K nd [.list, .tuple], _, rfl, ?_⟩
  have z := q p [V.ty (tyS .list), V.ty (tyS .tuple)] hp
  have e2 : ([Ty.list, Ty.tuple].any fun t => isTy t (sh1 v H)) = (isTy .list (sh1 v H) || isTy .tuple (sh1 v H)) := by simp
  rw [e2]; exact z
end
theorem nx_lem {t : TS} {D2 : Ends} {σ : L2.St} {H : Hp} (Pd : L2.St → Hp → Prop) (h1 : ∀ σ H, Pd σ H → D2.nx σ H) (h2 : (∀ σ H, Pd σ H → D2.nx σ H) → t D2 σ H) : t D2 σ H := h2 h1
theorem spoil_fn {P : Program} {w : World} {K : PySem.W.Frag} {mg : Str → Option Value} {base : Heap} {sc : Scope} {params : Arguments} {body : List Stmt} {f : Addr} {fd : FuncData} (F : SpFacts K mg sc params body f fd)
    {p1 p2 p3 p4 p5 p6 p7 p8 p9 p10 p11 p12 p13 p14 p15 p16 p17 p18 p19 p20 p21 p22 p23 p24 p25 p26 p27 p28 p29 p30 p31 p32 p33 p34 p35 p36 p37 p38 p39 p40 p41 p42 p43 p44 p45 : Pos} {k1 k2 k3 k4 : Nat} (hb : body = spoilB p1 p2 p3 p4 p5 p6 p7 p8 p9 p10 p11 p12 p13 p14 p15 p16 p17 p18 p19 p20 p21 p22 p23 p24 p25 p26 p27 p28 p29 p30 p31 p32 p33 p34 p35 p36 p37 p38 p39 p40 p41 p42 p43 p44 p45 k1 k2 k3 k4) (hline : (p41.endLine == p43.line) = true) (k : Nat) : ∀ n, FnG P w K mg base (L2.CX P w) (k + n + 1) f fd ["thing"] (spSpoil n)
  | 0 => by
    obtain ⟨oc, od, kV, doc, pm, an, cdv, ctv, osl, rfl, lk, hcd⟩ := F.ex
    subst hb
    refine fn_ofG lk hcd F.S (fun vs H Q E ⟨v, S, R, wt, e, _⟩ => by rw [e]; rfl) fun A outer s H vs Q E hr ⟨v, S, R, wt, e, hv, hk, hl, w0, mono, hq⟩ => ?_
    subst e
    have E1 : SpEnv (cxOf (L2.CX P w) P w K mg base ["thing", "key", "part"] "_law_spoilt" sc f cdv A outer s H E) := ⟨rfl, F.lt, F.lp, F.gi, F.gl, F.gt, F.gd, F.mi, F.ml, F.mt, F.md, rfl, passes_of rfl⟩
    refine ⟨_, pss_cons (ps_if E1.isDict pss_never pss_nil) (pss_cons (ps_if E1.isSeq pss_never pss_nil) (pss_one (ps_if E1.isList pss_never pss_nil))), ?_⟩
    have scal : ∀ t : Ty, t = .list ∨ t = .tuple ∨ t = .dict → ∀ H2, isTy t (sh1 v H2) = false := fun t ht H2 => by
      cases v <;> first | (exact hv.elim) | skip
      all_goals first | (rcases ht with rfl | rfl | rfl <;> rfl) | skip
      obtain ⟨i, _, e, _⟩ := hk 0 _ hv
      omega
    refine is1_run hk hv rfl ?_
    rw [scal .dict (.inr (.inr rfl))]
    refine if0 (is2_run hk w0 hv rfl fun p cs hp => ?_)
    rw [scal .list (.inl rfl), scal .tuple (.inr (.inl rfl))]
    have g := Gr.of (S := S) (R := R) (n := 0) (b := wt v) (Sub.to_upd (o := .tup cs) hp)
    refine if0 (is1_run (hk.gr w0 g) hv rfl ?_)
    rw [scal .list (.inl rfl)]
    exact if0 (hq _ g)
  | n + 1 => by
    have IH := spoil_fn (P := P) (w := w) (base := base) F hb hline k n
    obtain ⟨oc, od, kV, doc, pm, an, cdv, ctv, osl, rfl, lk, hcd⟩ := F.ex
    subst hb
    refine ⟨fun vs H Q E ⟨v, S, R, wt, e, _⟩ => by rw [e]; rfl, ?_⟩
    -- of a lesser rank, too
    have main : FnG P w K mg base (L2.CX P w) (k + (n + 1) + 1) f (PySem.W.fnOf "_law_spoilt" "_law_spoilt" params (spoilB p1 p2 p3 p4 p5 p6 p7 p8 p9 p10 p11 p12 p13 p14 p15 p16 p17 p18 p19 p20 p21 p22 p23 p24 p25 p26 p27 p28 p29 p30 p31 p32 p33 p34 p35 p36 p37 p38 p39 p40 p41 p42 p43 p44 p45 k1 k2 k3 k4) sc .none kV doc pm an cdv ctv) ["thing"] (fun vs H Q E => ∃ v S R wt, vs = [v] ∧ okv R (n + 1) v ∧ ¬ okv R n v ∧ OkH S R wt H ∧ OkL R H (wt v) ∧ wt late = 0 ∧ (∀ m a, R m a → R (m + 1) a) ∧ ∀ H', Gr S R (n + 1) (wt v) H H' → Q .non H') := by
      refine fn_ofG lk hcd F.S (fun vs H Q E ⟨v, S, R, wt, e, _⟩ => by rw [e]; rfl) fun A outer s H vs Q E hr ⟨v, S, R, wt, e, hv, hnv, hk, hl, w0, mono, hq⟩ => ?_
      subst e
      have E1 : SpEnv (cxOf (L2.CX P w) P w K mg base ["thing", "key", "part"] "_law_spoilt" sc f cdv A outer s H E) := ⟨rfl, F.lt, F.lp, F.gi, F.gl, F.gt, F.gd, F.mi, F.ml, F.mt, F.md, rfl, passes_of rfl⟩
      have tk : Takes (cxOf (L2.CX P w) P w K mg base ["thing", "key", "part"] "_law_spoilt" sc f cdv A outer s H E) (fun cls d _ H => E cls d H) := takes_of rfl rfl rfl rfl
      have gs : Gl (cxOf (L2.CX P w) P w K mg base ["thing", "key", "part"] "_law_spoilt" sc f cdv A outer s H E) "_law_spoilt" := F.gs
      have call := pe_callP (X := cxOf (L2.CX P w) P w K mg base ["thing", "key", "part"] "_law_spoilt" sc f cdv A outer s H E) (pos := p32) (p := p30) (ks := []) (E := WE fun cls d _ H => E cls d H) IH hr (x := "_law_spoilt") gs F.ms F.kp F.pl rfl F.pa (by decide) (fun σ => passAt tk σ) (pa_cons (E1.vp (p := p31)) pa_nil rfl) pk_nil rfl rfl (by decide) rfl (fun e => by cases e)
      have nd : (["thing", "key", "part"] : List Str).Nodup := by decide
      have pg : PG (cxOf (L2.CX P w) P w K mg base ["thing", "key", "part"] "_law_spoilt" sc f cdv A outer s H E) (.Name "part" p28) (gName 2) := pg_name nd rfl (.inl F.lp) (.inr F.lp)
      refine ⟨_, pss_cons (ps_if E1.isDict pss_never pss_nil) (pss_cons (ps_if E1.isSeq (pss_one (ps_for E1.pass rfl ((pi_list E1.v).or (pi_tup E1.v)) pg (pss_one (ps_expr call)))) pss_nil)
        (pss_one (ps_if E1.isList (pss_one (ps_expr (pe_bm PySem.F.plainAttrs_list PySem.F.slot_list_append PySem.F.type_list_append mt_append E1.v (pa_cons pe_str pa_nil) rfl rfl hline))) pss_nil))), ?_⟩
      cases v <;> first | exact absurd trivial hnv | exact hv.elim | skip
      rename_i a _
      obtain ⟨j, vs, ej, hat, hparts, hw⟩ := hk (n + 1) a hv
      have ej : n = j := by omega
      subst ej
      -- the thing itself stays while its parts are spoilt
      have stays : ∀ {b : Nat} {H' : Hp} {o : HO}, Gr S R n b H H' → H a = some o → H' a = some o := fun {b H' o} g h => by
        rcases g a o h with h | ⟨_, h, _⟩
        · exact h
        · exact absurd h hnv
      refine is1_run hk hv rfl ?_
      have e1 : isTy .dict (sh1 (.ref a) H) = false := by simp only [sh1]; split <;> rfl
      rw [e1]
      refine if0 (is2_run hk w0 hv rfl fun p cs hp => ?_)
      have e2 : (isTy .list (sh1 (.ref a) H) || isTy .tuple (sh1 (.ref a) H)) = true := by simp only [sh1]; split <;> rfl
      rw [e2]
      have g1 : Gr S R n 0 H (upd H p (.tup cs)) := Gr.of (Sub.to_upd hp)
      refine if1 ?_
      refine nx_lem (t := tFor _ _ _) (fun σ' H2 => (∃ x, σ' = [some (.ref a), none, x]) ∧ Gr S R n ((vs.map wt).sum) H H2) ?_ fun fin => ?_
      · -- behind the loop
        rintro σ' H2 ⟨⟨x, rfl⟩, g2⟩
        refine is1_run (hk.gr w0 g2) hv rfl ?_
        rcases hat with hat | ⟨hS, hat⟩
        · have e3 : isTy .list (sh1 (.ref a) H2) = false := by simp only [sh1, stays g2 hat]; rfl
          rw [e3]
          exact if0 (hq _ ((g2.up fun b => mono n b).more (by omega)))
        · have h2 := stays g2 hat
          have e3 : isTy .list (sh1 (.ref a) H2) = true := by simp only [sh1, h2]; rfl
          rw [e3]
          refine if1 ⟨_, rfl, .inl ⟨rfl, _, .of h2⟩, a, vs, late, rfl, rfl, h2, ?_, ?_⟩
          · have := hl (n + 1) a vs hv hat; omega
          · refine hq _ (((g2.up fun b => mono n b).trans (b' := 1) fun b o hb => ?_).more (by omega))
            by_cases e : b = a
            · subst e
              rw [h2] at hb
              cases hb
              exact .inr ⟨hS, hv, vs, 1, Nat.le_refl _, rfl, upd_same⟩
            · exact .inl (by rw [upd_ne e]; exact hb)
      · have turn : ∀ {J : It} {Y : Nat → Hp → V → Hp → Prop} (i : Nat) (x : V) (σ' : L2.St) (Hc : Hp), i < vs.length → vs[i]? = some x → ((∃ z, σ' = [some (V.ref a), none, z]) ∧ Gr S R n (((vs.take i).map wt).sum) H Hc) →
            spSpoil n [x] Hc (fun _ H2 => (∃ z, σ'.set 2 (some x) = [some (V.ref a), none, z]) ∧ Gr S R n (((vs.take (i + 1)).map wt).sum) H H2) (fun _ _ _ => True) := fun {J Y} i x σ' Hc hi hx ⟨⟨z, e⟩, g⟩ => by
          subst e
          have et : ((vs.take (i + 1)).map wt).sum = ((vs.take i).map wt).sum + wt x := by
            rw [List.take_add_one, hx, List.map_append, List.sum_append]; simp
          have le : ((vs.take (i + 1)).map wt).sum ≤ (vs.map wt).sum := by
            have := List.take_append_drop (i + 1) vs
            have h9 : (vs.map wt).sum = ((vs.take (i + 1)).map wt).sum + ((vs.drop (i + 1)).map wt).sum := by rw [← List.sum_append, ← List.map_append, this]
            omega
          refine ⟨x, S, R, wt, rfl, hparts x (List.mem_of_getElem? hx), hk.gr w0 g, ?_, w0, mono, fun H2 g2 => ⟨⟨some x, rfl⟩, by rw [et]; exact g.trans g2⟩⟩
          have l2 : OkL R H (((vs.take i).map wt).sum + wt x) := fun m b ws h1 h2 => by
            have := hl m b ws h1 h2; omega
          exact OkL.gr hk l2 g
        have step : ∀ (i : Nat) (x : V) (σ' : L2.St) (Hc : Hp) (D3 : Ends), i < vs.length → vs[i]? = some x → ((∃ z, σ' = [some (V.ref a), none, z]) ∧ Gr S R n (((vs.take i).map wt).sum) H Hc) →
            D3.nx = (fun σ2 H2 => (∃ z, σ2 = [some (V.ref a), none, z]) ∧ Gr S R n (((vs.take (i + 1)).map wt).sum) H H2) → gName 2 x σ' Hc fun σ2 H2 => tDrop (tCallP ["thing"] [] (spSpoil n) (WE fun cls d _ H => E cls d H) (tCons (tVar 2) tNil) tNil) D3 σ2 H2 := fun i x σ' Hc D3 hi hx h e3 => by
          have t1 := turn (J := ⟨fun _ _ => True, fun _ _ _ _ => True, fun _ _ => True⟩) (Y := fun _ _ _ _ => True) i x σ' Hc hi hx h
          obtain ⟨⟨z, e⟩, g⟩ := h
          subst e
          refine ⟨x, rfl, (by decide : permOk ["thing"] [] 1 0 = true), ?_⟩
          rw [perm_all (as := [x]) (ps := ["thing"]) rfl, e3]
          exact t1
        have start0 : (∃ z, L2.start ["thing", "key", "part"] [V.ref a] = [some (V.ref a), none, z]) ∧ Gr S R n (((vs.take 0).map wt).sum) H (upd H p (.tup cs)) := ⟨⟨none, rfl⟩, g1⟩
        rcases hat with hat | ⟨hS, hat⟩
        · refine Or.inr ⟨.ref a, rfl, a, rfl, ⟨vs, SqT.of (stays g1 hat)⟩, for_it walk_tup (Pv := fun i σ' H2 => (∃ z, σ' = [some (V.ref a), none, z]) ∧ Gr S R n (((vs.take i).map wt).sum) H H2) start0 (fun i σ' H2 _ h => SqT.of (stays h.2 hat)) (fun i x σ' Hc H' hi h hy => ?_) (fun σ' H2 h => fin σ' H2 (by rw [List.take_length] at h; exact h))⟩
          obtain ⟨rfl, hx⟩ := hy
          exact step i x σ' _ _ hi hx h rfl
        · refine Or.inl ⟨.ref a, rfl, a, rfl, ⟨vs, SqL.of (stays g1 hat)⟩, for_it walk_list (Pv := fun i σ' H2 => (∃ z, σ' = [some (V.ref a), none, z]) ∧ Gr S R n (((vs.take i).map wt).sum) H H2) start0 (fun i σ' H2 _ h => SqL.of (stays h.2 hat)) (fun i x σ' Hc H' hi h hy => ?_) (fun σ' H2 h => fin σ' H2 (by rw [List.take_length] at h; exact h))⟩
          obtain ⟨rfl, hx⟩ := hy
          exact step i x σ' _ _ hi hx h rfl
    intro A outer s H args us vs Q E hr he hbi hv hsp
    obtain ⟨v, S, R, wt, e, h1, h2, h3, h4, h5, h6⟩ := hsp
    by_cases hn : okv R n v
    · exact (IH.mono (by omega)).run hr he hbi hv ⟨v, S, R, wt, e, hn, h2, h3, h4, h5, fun H' g => h6 H' (g.up fun a => h5 n a)⟩
    · exact main.run hr he hbi hv ⟨v, S, R, wt, e, h1, hn, h2, h3, h4, h5, h6⟩
end Sd

/-! Sd30: the rule for what is spoilt. -/
namespace Sd
open PySem PySem.Spec PyProof.Rows L2
/-- the last region behind a spoiling: its tuples, and what the one ahead has -/
def cutG (G : Nat → Hp) (lv : Nat) : Hp := fun a => match G lv a with
  | some (.tup xs) => some (.tup xs)
  | some o => if (G (lv - 1) a).isSome then some o else none
  | none => none
theorem cutG_sub {G : Nat → Hp} {lv : Nat} : Sub (cutG G lv) (G lv) := fun a o h => by
  unfold cutG at h
  split at h
  · rename_i e; cases h; exact e
  · rename_i o' _ e
    split at h
    · cases h; exact e
    · cases h
  · cases h
theorem cutG_tup {G : Nat → Hp} {lv : Nat} {a : Addr} {xs : List V} (h : G lv a = some (.tup xs)) : cutG G lv a = some (.tup xs) := by
  unfold cutG; rw [h]
theorem cutG_low {G : Nat → Hp} {lv : Nat} (k : Gok G lv) : Sub (G (lv - 1)) (cutG G lv) := fun a o h => by
  have h2 := k.mono (lv - 1) lv (by omega) a o h
  unfold cutG
  rw [h2]
  cases o <;> first | rfl | (simp [h])
theorem cutG_inv {G : Nat → Hp} {lv : Nat} {a : Addr} {o : HO} (h : cutG G lv a = some o) : (∃ xs, o = .tup xs) ∨ G (lv - 1) a ≠ none := by
  unfold cutG at h
  split at h
  · rename_i xs e; cases h; exact .inl ⟨xs, rfl⟩
  · split at h
    · rename_i e; exact .inr (by rw [← Option.isSome_iff_ne_none]; exact e)
    · cases h
  · cases h
abbrev Dy.cut (y : Dy) (lv : Nat) : Dy := { y with G := fun n => if n < lv then y.G n else cutG y.G lv }
/-- data that does not reach the last region stays -/
theorem regm_cut {G : Nat → Hp} {lv : Nat} {f : Fl} (h1 : 1 ≤ lv) (k : Gok G lv) (hf : f.hit lv = false) : Sub (regm G lv f) (regm (fun n => if n < lv then G n else cutG G lv) lv f) := fun a o h => by
  obtain ⟨h0, h2⟩ := regm_out h
  have tp : ∀ xs, o = .tup xs → regm (fun n => if n < lv then G n else cutG G lv) lv f a = some o := fun xs e => by
    subst e
    exact regm_tup (by show (if lv < lv then _ else cutG G lv) a = _; rw [if_neg (by omega)]; exact cutG_tup h0)
  rcases h2 with ⟨xs, e⟩ | ⟨h2, h3⟩
  · exact tp xs e
  · have hf : f.lo > f.hi ∨ f.hi < lv := by
      unfold Fl.hit at hf
      simp only [Bool.and_eq_false_iff, decide_eq_false_iff_not] at hf
      omega
    rcases hf with hf | hf
    · exfalso
      rcases h2 with h2 | h2
      · omega
      · exact h3 ((k.mono f.hi (f.lo - 1) (by omega)).none h2)
    · have hin : G (lv - 1) a = some o := by
        cases e : G (lv - 1) a with
        | none => exact absurd ((k.mono f.hi (lv - 1) (by omega)).none e) h3
        | some u => have := k.mono (lv - 1) lv (by omega) a u e; rw [h0] at this; cases this; rfl
      refine regm_in (by show (if lv < lv then _ else cutG G lv) a = _; rw [if_neg (by omega)]; exact cutG_low k a o hin) ?_ ?_
      · rcases h2 with h2 | h2
        · exact .inl h2
        · by_cases hz : f.lo - 1 < lv
          · right; show (if f.lo - 1 < lv then G (f.lo - 1) else cutG G lv) a = none; rw [if_pos hz]; exact h2
          · exact absurd h2 (by rw [k.flat _ (by omega), h0]; exact fun z => by cases z)
      · show (if f.hi < lv then G f.hi else cutG G lv) a ≠ none
        rw [if_pos hf]; exact h3
mutual
/-- data are told by where they lie -/
theorem Rp.uniq {sx : List (Addr × Addr)} {G : Hp} : ∀ (d e : D) (v : V) (n m : Nat), spOk n d = true → spOk m e = true → Rp sx G d v → Rp sx G e v → d = e
  | .non, e, v, n, m, h, k, r, q => by cases e <;> cases n <;> cases m <;> simp_all [Rp, spOk]
  | .bl b, e, v, n, m, h, k, r, q => by cases e <;> cases n <;> cases m <;> simp_all [Rp, spOk]
  | .int b, e, v, n, m, h, k, r, q => by cases e <;> cases n <;> cases m <;> simp_all [Rp, spOk]
  | .str b, e, v, n, m, h, k, r, q => by cases e <;> cases n <;> cases m <;> simp_all [Rp, spOk]
  | .lst xs, e, v, 0, m, h, k, r, q => by simp [spOk] at h
  | .tup xs, e, v, 0, m, h, k, r, q => by simp [spOk] at h
  | .lst xs, e, v, n + 1, m, h, k, r, q => by
    simp only [Rp] at r
    obtain ⟨a, vs, rfl, h1, h2⟩ := r
    cases e with
    | lst ys =>
      cases m with
      | zero => simp [spOk] at k
      | succ m =>
        simp only [Rp] at q
        obtain ⟨b, ws, e, h3, h4⟩ := q
        cases e
        rw [h1] at h3; cases h3
        rw [Rps.uniq xs ys vs n m (by simpa [spOk] using h) (by simpa [spOk] using k) h2 h4]
    | tup ys =>
      simp only [Rp] at q
      obtain ⟨b, ws, e, h3, h4⟩ := q
      cases e
      rw [h1] at h3; cases h3
    | stm g => cases m <;> simp [spOk] at k
    | obj g => cases m <;> simp [spOk] at k
    | dic a b => cases m <;> simp [spOk] at k
    | _ => simp [Rp] at q
  | .tup xs, e, v, n + 1, m, h, k, r, q => by
    simp only [Rp] at r
    obtain ⟨a, vs, rfl, h1, h2⟩ := r
    cases e with
    | tup ys =>
      cases m with
      | zero => simp [spOk] at k
      | succ m =>
        simp only [Rp] at q
        obtain ⟨b, ws, e, h3, h4⟩ := q
        cases e
        rw [h1] at h3; cases h3
        rw [Rps.uniq xs ys vs n m (by simpa [spOk] using h) (by simpa [spOk] using k) h2 h4]
    | lst ys =>
      simp only [Rp] at q
      obtain ⟨b, ws, e, h3, h4⟩ := q
      cases e
      rw [h1] at h3; cases h3
    | stm g => cases m <;> simp [spOk] at k
    | obj g => cases m <;> simp [spOk] at k
    | dic a b => cases m <;> simp [spOk] at k
    | _ => simp [Rp] at q
  | .dic a b, e, v, n, m, h, k, r, q => by cases n <;> simp [spOk] at h
  | .stm a, e, v, n, m, h, k, r, q => by cases n <;> simp [spOk] at h
  | .obj a, e, v, n, m, h, k, r, q => by cases n <;> simp [spOk] at h
theorem Rps.uniq {sx : List (Addr × Addr)} {G : Hp} : ∀ (ds es : List D) (vs : List V) (n m : Nat), spOks n ds = true → spOks m es = true → Rps sx G ds vs → Rps sx G es vs → ds = es
  | [], es, vs, n, m, h, k, r, q => by
    simp only [Rps] at r
    subst r
    cases es with
    | nil => rfl
    | cons e es => obtain ⟨_, _, z, _⟩ := q.inv; cases z
  | d :: ds, es, vs, n, m, h, k, r, q => by
    obtain ⟨v, vr, rfl, r1, r2⟩ := r.inv
    cases es with
    | nil => simp only [Rps] at q; cases q
    | cons e es =>
      obtain ⟨w, wr, z, q1, q2⟩ := q.inv
      cases z
      simp only [spOks, Bool.and_eq_true] at h k
      rw [Rp.uniq d e v n m h.1 k.1 r1 q1, Rps.uniq ds es vr n m h.2 k.2 r2 q2]
end
/-- the state behind a spoiling: only lists that stand in the last region alone have changed -/
theorem SR.spoil {y : Dy} {lv : Nat} {c : C} {σ : L2.St} {H H' : Hp} (s : SR y lv c σ H) (keep : ∀ a o, H a = some o → ¬ ((∃ vs, y.G lv a = some (.lst vs)) ∧ y.G (lv - 1) a = none) → H' a = some o) (live : ∀ a, H a ≠ none → H' a ≠ none) :
    SR (y.cut lv) lv { c with r := c.r.map (spoilS lv) } σ H' := by
  have e : (y.cut lv).G lv = cutG y.G lv := by show (if lv < lv then y.G lv else cutG y.G lv) = _; rw [if_neg (by omega)]
  have e0 : (y.cut lv).G 0 = y.G 0 := by show (if 0 < lv then y.G 0 else cutG y.G lv) = _; rw [if_pos (show 0 < lv from s.pos)]
  have off : ∀ {a : Addr} {o : HO}, H a = some o → y.G lv a = none → H' a = some o := fun {a o} h hn => keep a o h fun ⟨⟨vs, z⟩, _⟩ => by rw [hn] at z; cases z
  have kk : Gok (y.cut lv).G lv := by
    refine ⟨fun m n h => ?_, fun n h => ?_⟩
    · show Sub (if m < lv then y.G m else cutG y.G lv) (if n < lv then y.G n else cutG y.G lv)
      split <;> split
      · exact s.g.mono m n h
      · exact (s.g.mono m (lv - 1) (by omega)).trans (cutG_low s.g)
      · omega
      · exact Sub.refl _
    · show (if n < lv then y.G n else cutG y.G lv) = _
      rw [if_neg (by omega), e]
  have slot : ∀ (i : Nat) sl, (c.r.map (spoilS lv))[i]? = some sl → ∃ s0, c.r[i]? = some s0 ∧ sl = spoilS lv s0 := fun i sl h => by
    rw [List.getElem?_map] at h
    cases h' : c.r[i]? with
    | none => rw [h'] at h; cases h
    | some s0 => rw [h'] at h; cases h; exact ⟨s0, rfl, rfl⟩
  refine ⟨s.pos, s.zb, kk, ?_, fun a o h => ?_, fun a h => live a (s.old a h), fun a o h => ?_, fun i sl hi => ?_, fun i j p h2 h3 => ?_, ⟨s.str.len, fun g q t h1 h2 => ?_, fun q hq => ?_, s.str.nd⟩, by simpa using s.len⟩
  · rw [e]
    intro a o h
    refine keep a o (s.top _ _ (cutG_sub _ _ h)) fun ⟨⟨vs, z⟩, hn⟩ => ?_
    have hG := cutG_sub _ _ h
    rcases cutG_inv h with ⟨xs, rfl⟩ | h'
    · rw [hG] at z; cases z
    · exact h' hn
  · refine keep a o (s.prot a o h) fun ⟨⟨vs, z⟩, hn⟩ => ?_
    rcases s.fresh a _ z with z' | z'
    · rw [(s.g.mono 0 (lv - 1) (by omega)).none hn] at z'; cases z'
    · exact s.zb a (by have h : y.Z a = some o := h; rw [h]; exact fun z => by cases z) z'
  · rw [e] at h; rw [e0]; exact s.fresh a o (cutG_sub _ _ h)
  · obtain ⟨s0, h2, rfl⟩ := slot i sl hi
    have q := s.slots i s0 h2
    cases s0 with
    | un => trivial
    | sh f d =>
      simp only [spoilS]
      split
      · trivial
      · rename_i hf
        obtain ⟨v, e1, e2⟩ := q
        exact ⟨v, e1, Rp.mono (Pre.refl _) (regm_cut s.pos s.g (by simpa using hf)) _ _ e2⟩
    | ow f d =>
      simp only [spoilS]
      split
      · trivial
      · rename_i hf
        obtain ⟨p, e1, o1, o2, o3, o4, o5⟩ := q
        refine ⟨p, e1, by rw [e]; exact Sub.none cutG_sub o1, o2, o3, o4, ?_⟩
        cases d <;> first | exact o5.elim | (obtain ⟨vs, h1', h2'⟩ := o5; exact ⟨vs, off h1' o1, Rps.mono (Pre.refl _) (regm_cut s.pos s.g (by simpa using hf)) _ _ h2'⟩)
  · have bk : ∀ {i}, OwnAt { c with r := c.r.map (spoilS lv) } σ i p → OwnAt c σ i p := fun {i} ⟨⟨f, d, h⟩, h'⟩ => by
      obtain ⟨s0, h2, e2⟩ := slot i _ h
      cases s0 <;> first | (cases e2; done) | (simp only [spoilS] at e2; split at e2 <;> first | (cases e2; done) | exact ⟨⟨_, _, h2⟩, h'⟩)
    exact s.inj i j p (bk h2) (bk h3)
  · obtain ⟨a1, a2⟩ := s.str.at_ g q t h1 h2
    obtain ⟨b1, b2, _, _⟩ := s.str.off q (List.mem_of_getElem? h1)
    exact ⟨off a1 b1, off a2 b2⟩
  · obtain ⟨b1, b2, b3, b4⟩ := s.str.off q hq
    exact ⟨by rw [e]; exact Sub.none cutG_sub b1, by rw [e]; exact Sub.none cutG_sub b2, b3, b4⟩
end Sd

/-! Sd31: the rule for what is spoilt. -/
namespace Sd
open PySem PySem.Spec PyProof.Rows L2
section
variable {sx : List (Addr × Addr)} {G : Hp}
/-- the addresses that data of d reach, by rank -/
def rkR (sx : List (Addr × Addr)) (G : Hp) (b : Nat) : Nat → Addr → Prop := fun m a => ∃ d, spOk m d = true ∧ nodes d ≤ b ∧ Rp sx G d (.ref a)
open Classical in
noncomputable def wtR (sx : List (Addr × Addr)) (G : Hp) : V → Nat := fun v => match v with
  | .ref a => if h : ∃ d, (∃ m, spOk m d = true) ∧ Rp sx G d (.ref a) then nodes h.choose else 0
  | _ => 0
open Classical in
theorem wtR_eq {d : D} {m : Nat} {a : Addr} (h : spOk m d = true) (r : Rp sx G d (.ref a)) : wtR sx G (.ref a) = nodes d := by
  have hx : ∃ d, (∃ m, spOk m d = true) ∧ Rp sx G d (.ref a) := ⟨d, ⟨m, h⟩, r⟩
  show (if h : ∃ d, (∃ m, spOk m d = true) ∧ Rp sx G d (.ref a) then nodes h.choose else 0) = _
  rw [dif_pos hx]
  obtain ⟨⟨m', h'⟩, r'⟩ := hx.choose_spec
  rw [Rp.uniq _ d _ m' m h' h r' r]
theorem wtR_le {d : D} {m : Nat} {v : V} (h : spOk m d = true) (r : Rp sx G d v) : wtR sx G v ≤ nodes d := by
  cases v <;> first | exact Nat.zero_le _ | exact Nat.le_of_eq (wtR_eq h r)
theorem wtR_sum : ∀ {ds : List D} {vs : List V} {m : Nat}, spOks m ds = true → Rps sx G ds vs → (vs.map (wtR sx G)).sum ≤ nodess ds
  | [], vs, m, _, r => by simp only [Rps] at r; subst r; simp
  | d :: ds, vs, m, h, r => by
    obtain ⟨v, vr, rfl, r1, r2⟩ := r.inv
    simp only [spOks, Bool.and_eq_true] at h
    have a := wtR_le h.1 r1
    have b := wtR_sum h.2 r2
    simp only [List.map_cons, List.sum_cons, nodess]
    omega
theorem nodes_mem : ∀ {ds : List D} {d : D}, d ∈ ds → nodes d ≤ nodess ds
  | d :: ds, e, h => by
    rcases List.mem_cons.mp h with rfl | h
    · simp only [nodess]; omega
    · have := nodes_mem h
      simp only [nodess]; omega
theorem nodes_len : ∀ ds : List D, ds.length ≤ nodess ds
  | [] => Nat.zero_le _
  | d :: ds => by
    have a := nodes_len ds
    have b : 1 ≤ nodes d := by cases d <;> simp [nodes]
    simp only [List.length_cons, nodess]; omega
theorem spOks_mem : ∀ {ds : List D} {d : D} {m : Nat}, spOks m ds = true → d ∈ ds → spOk m d = true
  | d :: ds, e, m, h, hm => by
    simp only [spOks, Bool.and_eq_true] at h
    rcases List.mem_cons.mp hm with rfl | hm
    · exact h.1
    · exact spOks_mem h.2 hm
theorem okv_of {d : D} {m b : Nat} {v : V} (h : spOk m d = true) (hb : nodes d ≤ b) (r : Rp sx G d v) : okv (rkR sx G b) m v := by
  cases d with
  | non => simp only [Rp] at r; subst r; trivial
  | bl b => simp only [Rp] at r; subst r; trivial
  | int b => simp only [Rp] at r; subst r; trivial
  | str b => simp only [Rp] at r; subst r; trivial
  | lst xs => have r' := r; simp only [Rp] at r'; obtain ⟨a, vs, rfl, _⟩ := r'; exact ⟨_, h, hb, r⟩
  | tup xs => have r' := r; simp only [Rp] at r'; obtain ⟨a, vs, rfl, _⟩ := r'; exact ⟨_, h, hb, r⟩
  | dic a b => simp only [Rp] at r
  | stm g => cases m <;> simp [spOk] at h
  | obj g => cases m <;> simp [spOk] at h
mutual
theorem spOk_up : ∀ (d : D) (m : Nat), spOk m d = true → spOk (m + 1) d = true
  | .non, _, _ => rfl
  | .bl _, _, _ => rfl
  | .int _, _, _ => rfl
  | .str _, _, _ => rfl
  | .lst xs, 0, h => by simp [spOk] at h
  | .tup xs, 0, h => by simp [spOk] at h
  | .lst xs, m + 1, h => by simp only [spOk] at h ⊢; exact spOks_up xs m h
  | .tup xs, m + 1, h => by simp only [spOk] at h ⊢; exact spOks_up xs m h
  | .dic _ _, m, h => by cases m <;> simp [spOk] at h
  | .stm _, m, h => by cases m <;> simp [spOk] at h
  | .obj _, m, h => by cases m <;> simp [spOk] at h
theorem spOks_up : ∀ (ds : List D) (m : Nat), spOks m ds = true → spOks (m + 1) ds = true
  | [], _, _ => rfl
  | d :: ds, m, h => by
    simp only [spOks, Bool.and_eq_true] at h ⊢
    exact ⟨spOk_up d m h.1, spOks_up ds m h.2⟩
end
theorem okH_of {S : Addr → Prop} {H : Hp} {b : Nat} (up : Sub G H) (hS : ∀ a vs, G a = some (.lst vs) → S a) : OkH S (rkR sx G b) (wtR sx G) H := fun m a ⟨d, h1, h2, h3⟩ => by
  have mem : ∀ {xs : List D} {vs : List V} {k : Nat}, spOks k xs = true → nodess xs ≤ b → Rps sx G xs vs → ∀ u ∈ vs, okv (rkR sx G b) k u := fun {xs vs k} q1 q2 q3 u hu => by
    obtain ⟨i, hi⟩ := List.getElem?_of_mem hu
    obtain ⟨e, e1, e2⟩ := q3.get' hi
    have hm := List.mem_of_getElem? e1
    exact okv_of (spOks_mem q1 hm) (Nat.le_trans (nodes_mem hm) q2) e2
  have hw := wtR_eq h1 h3
  cases d with
  | lst xs =>
    cases m with
    | zero => simp [spOk] at h1
    | succ m =>
      simp only [spOk] at h1
      simp only [nodes] at h2 hw
      simp only [Rp] at h3
      obtain ⟨a', vs, e, q1, q2⟩ := h3
      cases e
      refine ⟨m, vs, rfl, .inr ⟨hS _ _ q1, up _ _ q1⟩, mem h1 (by omega) q2, ?_⟩
      rw [hw]; have := wtR_sum h1 q2; omega
  | tup xs =>
    cases m with
    | zero => simp [spOk] at h1
    | succ m =>
      simp only [spOk] at h1
      simp only [nodes] at h2 hw
      simp only [Rp] at h3
      obtain ⟨a', vs, e, q1, q2⟩ := h3
      cases e
      refine ⟨m, vs, rfl, .inl (up _ _ q1), mem h1 (by omega) q2, ?_⟩
      rw [hw]; have := wtR_sum h1 q2; omega
  | stm g => cases m <;> simp [spOk] at h1
  | obj g => cases m <;> simp [spOk] at h1
  | dic a b => simp only [Rp] at h3
  | _ => simp [Rp] at h3
end
end Sd

/-! Sd31b: the rule for what is spoilt, in a text. -/
namespace Sd
open PySem PySem.Spec PyProof.Rows L2
theorem spoils_ok {P : Program} {w : World} {K : PySem.W.Frag} {mg : Str → Option Value} {base : Heap} {ct : Ct} {sc : Scope} {params : Arguments} {body : List Stmt} {f : Addr} {fd : FuncData} (F : SpFacts K mg sc params body f fd)
    {p1 p2 p3 p4 p5 p6 p7 p8 p9 p10 p11 p12 p13 p14 p15 p16 p17 p18 p19 p20 p21 p22 p23 p24 p25 p26 p27 p28 p29 p30 p31 p32 p33 p34 p35 p36 p37 p38 p39 p40 p41 p42 p43 p44 p45 : Pos} {k1 k2 k3 k4 : Nat} (hb : body = spoilB p1 p2 p3 p4 p5 p6 p7 p8 p9 p10 p11 p12 p13 p14 p15 p16 p17 p18 p19 p20 p21 p22 p23 p24 p25 p26 p27 p28 p29 p30 p31 p32 p33 p34 p35 p36 p37 p38 p39 p40 p41 p42 p43 p44 p45 k1 k2 k3 k4) (hline : (p41.endLine == p43.line) = true) (k : Nat) : Spoils P w K mg base ct (k + 21) := by
  intro cl sg X h1 h2 h3 h4 h5 hr hc W tk hg lv x i p pos pos2 hstar hx
  subst h1; subst h2; subst h3; subst h4; subst h5
  have hd : fd.defaults = .none := by obtain ⟨_, _, _, _, _, _, _, _, _, rfl, _⟩ := F.ex; exact rfl
  have hpa : fd.params.args.map (·.arg) = (["thing"] : List Str) := by obtain ⟨_, _, _, _, _, _, _, _, _, rfl, _⟩ := F.ex; exact F.pa
  have hpl : PlainPs fd.params := by obtain ⟨_, _, _, _, _, _, _, _, _, rfl, _⟩ := F.ex; exact F.pl
  have call := pe_callP (X := X) (pos := pos) (p := p) (ks := []) (E := WE W) (spoil_fn (P := X.prog) (w := X.w) (base := X.base) F hb hline k 20) hr (x := "_law_spoilt") hg F.ms F.kp hpl hd hpa (by decide) (fun σ => passAt tk σ) (pa_cons hx pa_nil (notStar hstar)) pk_nil rfl rfl (by decide) (by simp [hstar]) (fun e => by cases e)
  refine (ps_expr call rfl).conseq fun D σ H ⟨y, c, s, h⟩ => ?_
  simp only [exS, if_pos] at h
  refine toZ s ((goS h).imp (fun _ _ z => z) fun fd2 c1 q y1 v H1 x1 s1 r1 => ?_)
  obtain ⟨fl, d⟩ := fd2
  dsimp only at q r1
  split at q
  case isFalse => exact q.elim
  rename_i hcond
  simp only [Bool.and_eq_true, decide_eq_true_eq] at hcond
  obtain ⟨⟨c1', c2⟩, c3⟩ := hcond
  refine ⟨(by decide : permOk ["thing"] [] 1 0 = true), ?_⟩
  rw [perm_all (as := [v]) (ps := ["thing"]) rfl]
  have hpos := s1.pos
  have up : Sub (regm y1.G lv fl) H1 := regm_sub.trans s1.top
  have hw : wtR y1.sx (regm y1.G lv fl) v ≤ nodes d := wtR_le c2 r1
  refine ⟨v, fun a => (∃ vs, y1.G lv a = some (.lst vs)) ∧ y1.G (lv - 1) a = none, rkR y1.sx (regm y1.G lv fl) (nodes d), wtR y1.sx (regm y1.G lv fl), rfl, okv_of c2 (Nat.le_refl _) r1, okH_of up fun a vs ha => ?_, fun m a vs ⟨d', e1, e2, e3⟩ ha => ?_, rfl, fun m a ⟨d', e1, e2, e3⟩ => ⟨d', spOk_up d' m e1, e2, e3⟩, fun H' g => ?_⟩
  · obtain ⟨h0, h1⟩ := regm_out ha
    refine ⟨⟨vs, h0⟩, ?_⟩
    rcases h1 with ⟨xs, e⟩ | ⟨h1, _⟩
    · cases e
    · rcases h1 with h1 | h1
      · omega
      · exact (s1.g.mono (lv - 1) (fl.lo - 1) (by omega)).none h1
  · have hl : vs.length + nodes d ≤ SZ := by
      cases d' with
      | lst xs =>
        simp only [Rp] at e3
        obtain ⟨b, ws, eb, q1, q2⟩ := e3
        cases eb
        rw [up _ _ q1] at ha
        cases ha
        have := q2.length
        have := nodes_len xs
        simp only [nodes] at e2
        omega
      | tup xs =>
        simp only [Rp] at e3
        obtain ⟨b, ws, eb, q1, q2⟩ := e3
        cases eb
        rw [up _ _ q1] at ha
        cases ha
      | stm g => cases m <;> simp [spOk] at e1
      | obj g => cases m <;> simp [spOk] at e1
      | dic a b => simp only [Rp] at e3
      | _ => simp [Rp] at e3
    have : sizeLine = SZ := sizeLine_eq
    omega
  · have s2 := s1.spoil (H' := H') (fun a o ha hn => by
      rcases g a o ha with g | ⟨g, _⟩
      · exact g
      · exact absurd g hn) (fun a ha => by
      obtain ⟨o, ho⟩ := Option.ne_none_iff_exists'.mp ha
      rcases g a o ho with g | ⟨_, _, vs, j, _, _, g⟩
      · rw [g]; exact fun z => by cases z
      · rw [g]; exact fun z => by cases z)
    refine q (y1.cut lv) σ H' ⟨x1.z, x1.b, fun n hn => ?_, x1.s, fun z => by cases z⟩ s2
    show (if n < lv then y1.G n else cutG y1.G lv) = y.G n
    rw [if_pos hn]; exact x1.g.low n hn
end Sd

/-! Sd32: from what the program's top leaves to the law's end. -/
namespace Sd
open PySem PySem.Spec PyProof.Rows L2
/-- where a def stands -/
structure At (K : PySem.W.Frag) (mg : Str → Option Value) (x : Str) (st : Stmt) : Prop where
  ex : ∃ (f : Addr) (oc : Value) (od : Option Addr) (kV doc pm : Value) (an : Option Addr) (cdv ct : Value) (osl : Array (Option Value)),
    mg x = some (.ref f) ∧ PySem.W.keepIn K (.ref f) = true ∧ K.lookup f = some ⟨oc, od, .func (PySem.W.fnOf x x (defArgs st) (defBody st) (defScope st) .none kV doc pm an cdv ct), osl⟩ ∧ PySem.W.codeIn K cdv x = true
theorem at_mk {K : PySem.W.Frag} {mg : Str → Option Value} {h : Heap} {x : Str} {st : Stmt} (X : K.In h) (G : h.Ns mainGlobals mg) {f : Addr} {oc : Value} {od : Option Addr} {kV doc pm : Value} {an : Option Addr} {cdv ct : Value} {osl : Array (Option Value)}
    (a : PySem.W.nsIn K mainGlobals x = some (some (.ref f))) (l : K.lookup f = some ⟨oc, od, .func (PySem.W.fnOf x x (defArgs st) (defBody st) (defScope st) .none kV doc pm an cdv ct), osl⟩) (c : PySem.W.codeIn K cdv x = true) (k : PySem.W.keepIn K (.ref f) = true) : At K mg x st :=
  ⟨⟨f, oc, od, kV, doc, pm, an, cdv, ct, osl, PySem.W.mg_of X G a, k, l, c⟩⟩
/-- a def's text -/
structure TxtD (us : List Str) (Pr : Pg) (x : Str) (st : Stmt) (a : Ann) (ps : List Str) : Prop where
  S : FnScope a.N ps (defScope st)
  pl : PlainPs (defArgs st)
  hps : (defArgs st).args.map (·.arg) = ps
  nd : ps.Nodup
  hP : Pr.lookup x = some ⟨ps, a.N, cL us a 200 (defScope st) (defBody st)⟩
section
variable {P : Program} {w : World} {K : PySem.W.Frag} {mg : Str → Option Value} {base : Heap} {us : List Str} {ct : Ct} {Pr : Pg} {x : Str} {st : Stmt} {a : Ann} {ps : List Str}
theorem At.row (h : At K mg x st) (t : TxtD us Pr x st a ps) : DefRow K mg us Pr x := by
  obtain ⟨f, oc, od, kV, doc, pm, an, cdv, ctv, osl, h1, h2, h3, h4⟩ := h.ex
  exact ⟨a, ps, _, _, _, f, _, ⟨⟨oc, od, kV, doc, pm, an, cdv, ctv, osl, rfl, h3, h4⟩, t.S⟩, h1, h2, t.pl, t.hps, t.nd, t.hP⟩
theorem At.draw (h : At K mg nDraw st) (hno : Pr.lookup nDraw = none) (S : FnScope drawN ["stream", "many"] (defScope st)) (loc : ∀ x ∈ drawN, (defScope st).names.lookup x = some .local) (ga : (defScope st).names.lookup ("abs" : Str) = some .globalImplicit) (gi : (defScope st).names.lookup ("int" : Str) = some .globalImplicit) (ma : mg "abs" = none) (mi : mg "int" = none) (pl : PlainPs (defArgs st)) (hps : (defArgs st).args.map (·.arg) = (["stream", "many"] : List Str))
    {p1 p2 p3 p4 p5 p6 p7 p8 p9 p10 p11 p12 p13 p14 p15 p16 p17 p18 p19 p20 p21 p22 p23 p24 p25 p26 p27 p28 p29 p30 p31 p32 p33 p34 p35 p36 p37 p38 p39 p40 p41 p42 p43 p44 p45 p46 p47 p48 p49 p50 p51 p52 p53 p54 p55 p56 p57 p58 p59 p60 p61 p62 p63 p64 p65 p66 p67 p68 p69 p70 p71 p72 p73 p74 p75 p76 p77 p78 p79 p80 p81 p82 p83 p84 p85 p86 p87 p88 p89 p90 p91 p92 p93 p94 p95 p96 p97 p98 p99 p100 p101 p102 p103 p104 p105 p106 p107 p108 p109 p110 p111 p112 p113 p114 p115 p116 p117 p118 p119 p120 p121 p122 p123 p124 p125 : Pos} {k1 k2 k3 k4 k5 k6 k7 k8 k9 k10 k11 k12 k13 k14 k15 k16 k17 k18 k19 k20 k21 k22 k23 k24 k25 k26 k27 k28 k29 k30 k31 k32 k33 k34 : Nat} (hb : defBody st = drawB p1 p2 p3 p4 p5 p6 p7 p8 p9 p10 p11 p12 p13 p14 p15 p16 p17 p18 p19 p20 p21 p22 p23 p24 p25 p26 p27 p28 p29 p30 p31 p32 p33 p34 p35 p36 p37 p38 p39 p40 p41 p42 p43 p44 p45 p46 p47 p48 p49 p50 p51 p52 p53 p54 p55 p56 p57 p58 p59 p60 p61 p62 p63 p64 p65 p66 p67 p68 p69 p70 p71 p72 p73 p74 p75 p76 p77 p78 p79 p80 p81 p82 p83 p84 p85 p86 p87 p88 p89 p90 p91 p92 p93 p94 p95 p96 p97 p98 p99 p100 p101 p102 p103 p104 p105 p106 p107 p108 p109 p110 p111 p112 p113 p114 p115 p116 p117 p118 p119 p120 p121 p122 p123 p124 p125 k1 k2 k3 k4 k5 k6 k7 k8 k9 k10 k11 k12 k13 k14 k15 k16 k17 k18 k19 k20 k21 k22 k23 k24 k25 k26 k27 k28 k29 k30 k31 k32 k33 k34) (hline : (p26.endLine == p28.line) = true) : DrawRow P w K mg base ct Pr := by
  obtain ⟨f, oc, od, kV, doc, pm, an, cdv, ctv, osl, h1, h2, h3, h4⟩ := h.ex
  exact ⟨hno, f, _, h1, h2, pl, rfl, hps, fun k => draw_fn ⟨⟨oc, od, kV, doc, pm, an, cdv, ctv, osl, rfl, h3, h4⟩, S, loc, ga, gi, ma, mi⟩ hb hline⟩
/-- facts of the text of `_law_spoilt` -/
structure SpTxt (mg : Str → Option Value) (sc : Scope) (params : Arguments) : Prop where
  S : FnScope (["thing", "key", "part"] : List Str) ["thing"] sc
  lt : sc.names.lookup ("thing" : Str) = some .local
  lp : sc.names.lookup ("part" : Str) = some .local
  gi : sc.names.lookup ("isinstance" : Str) = some .globalImplicit
  gl : sc.names.lookup ("list" : Str) = some .globalImplicit
  gt : sc.names.lookup ("tuple" : Str) = some .globalImplicit
  gd : sc.names.lookup ("dict" : Str) = some .globalImplicit
  gs : sc.names.lookup ("_law_spoilt" : Str) = some .globalImplicit
  pl : PlainPs params
  pa : params.args.map (·.arg) = (["thing"] : List Str)
theorem At.spoils (h : At K mg "_law_spoilt" st) (blt : ∀ x ∈ bnames, mg x = none) (t : SpTxt mg (defScope st) (defArgs st))
    {p1 p2 p3 p4 p5 p6 p7 p8 p9 p10 p11 p12 p13 p14 p15 p16 p17 p18 p19 p20 p21 p22 p23 p24 p25 p26 p27 p28 p29 p30 p31 p32 p33 p34 p35 p36 p37 p38 p39 p40 p41 p42 p43 p44 p45 : Pos} {k1 k2 k3 k4 : Nat} (hb : defBody st = spoilB p1 p2 p3 p4 p5 p6 p7 p8 p9 p10 p11 p12 p13 p14 p15 p16 p17 p18 p19 p20 p21 p22 p23 p24 p25 p26 p27 p28 p29 p30 p31 p32 p33 p34 p35 p36 p37 p38 p39 p40 p41 p42 p43 p44 p45 k1 k2 k3 k4) (hline : (p41.endLine == p43.line) = true) : Spoils P w K mg base ct 21 := by
  obtain ⟨f, oc, od, kV, doc, pm, an, cdv, ctv, osl, h1, h2, h3, h4⟩ := h.ex
  have z := spoils_ok (P := P) (w := w) (base := base) (ct := ct) (K := K) (mg := mg) (f := f) (fd := PySem.W.fnOf "_law_spoilt" "_law_spoilt" (defArgs st) (defBody st) (defScope st) .none kV doc pm an cdv ctv) (sc := defScope st) (params := defArgs st) (body := defBody st)
    ⟨⟨oc, od, kV, doc, pm, an, cdv, ctv, osl, rfl, h3, h4⟩, t.S, t.lt, t.lp, t.gi, t.gl, t.gt, t.gd, t.gs, blt _ (by decide), blt _ (by decide), blt _ (by decide), blt _ (by decide), h1, h2, t.pl, t.pa⟩ hb hline 0
  exact z
theorem At.law {fL : Addr} {sS : Stmt} {Nr : List Str} {rest : List Stmt} {q1 q2 q3 q4 q5 : Pos} {k : Nat} {cl : Caller} {sg : Sig} (h : At K mg "law" st) (hS : At K mg "_law_stream" sS) (blt : ∀ x ∈ bnames, mg x = none) (hmg : mg "law" = some (.ref fL))
    (tS : FnScope ["script"] ["script"] (defScope sS)) (plS : PlainPs (defArgs sS)) (hpsS : (defArgs sS).args.map (·.arg) = (["script"] : List Str)) (slS : (defScope sS).names.lookup ("script" : Str) = some .local) (sgS : (defScope sS).names.lookup ("list" : Str) = some .globalImplicit)
    {p1 p2 p3 p4 p5 p6 p7 p8 : Pos} {k1 k2 k3 : Nat} (hb : defBody sS = streamB p1 p2 p3 p4 p5 p6 p7 p8 k1 k2 k3)
    (S : FnScope a.N ["script"] (defScope st)) (pl : PlainPs (defArgs st)) (hps : (defArgs st).args.map (·.arg) = (["script"] : List Str)) (hbl : defBody st = (.Assign [.Name "stream" q1] (.Call (.Name "_law_stream" q2) [.Name "script" q3] [] q4) q5 :: rest)) (hN : a.N = ("script" : Str) :: ("stream" : Str) :: Nr)
    (g1 : (defScope st).names.lookup ("_law_stream" : Str) = some .globalImplicit) (l1 : isSto (defScope st) "script" = true) (l2 : isSto (defScope st) "stream" = true)
    (M : ∀ base : Heap, K.In base → base.Ns mainGlobals mg → ModEnv P w K mg base us ct cl sg (k + 1))
    (law : ∀ ns : List Int, ns.length ≤ 63 → ∃ f c', exL cl sg 1 false (cL us a 200 (defScope st) rest) ⟨lawR Nr.length, [⟨ns, 0, 0, 19⟩]⟩ = .rt f (.bl true) c') :
    ∃ fd : FuncData, (∀ (s : Shared) (u : Value), BindsTo s fd ⟨[u], []⟩ [("script", u)]) ∧ ∀ base : Heap, K.In base → base.Ns mainGlobals mg → FnG P w K mg base (L2.CX P w) (k + 2) fL fd ["script"] (spLaw K) := by
  obtain ⟨f, oc, od, kV, doc, pm, an, cdv, ctv, osl, h1, h2, h3, h4⟩ := h.ex
  rw [hmg] at h1
  cases h1
  obtain ⟨f', oc', od', kV', doc', pm', an', cdv', ctv', osl', g1', g2', g3', g4'⟩ := hS.ex
  rw [hbl] at h3
  refine ⟨PySem.W.fnOf "law" "law" (defArgs st) (.Assign [.Name "stream" q1] (.Call (.Name "_law_stream" q2) [.Name "script" q3] [] q4) q5 :: rest) (defScope st) .none kV doc pm an cdv ctv, fun s u => .of_eq ?_, fun base hK hG => law_fn (M base hK hG) ⟨⟨oc, od, kV, doc, pm, an, cdv, ctv, osl, rfl, h3, h4⟩, S⟩ hN ⟨f', _, g1', g2', plS, rfl, hpsS, stream_fn ⟨⟨oc', od', kV', doc', pm', an', cdv', ctv', osl', rfl, g3', g4'⟩, tS⟩ slS sgS (blt _ (by decide)) hb⟩ g1 l1 l2 law⟩
  exact bind_plain (fd := PySem.W.fnOf "law" "law" (defArgs st) (.Assign [.Name "stream" q1] (.Call (.Name "_law_stream" q2) [.Name "script" q3] [] q4) q5 :: rest) (defScope st) .none kV doc pm an cdv ctv) (ks := []) (us := [u]) (ws := []) pl rfl (ps := ["script"]) hps (by decide) rfl
end
end Sd

/-! Sd33: a law that makes a stream anew at each turn. -/
namespace Sd
open PySem PySem.Spec PyProof.Rows L2
/-- the slots behind a turn's first row -/
def law2R (a : Addr) (k : Int) (n : Nat) : List Slot := .sh Fl.top (.obj a) :: .sh Fl.top (.int k) :: .sh Fl.top (.stm 0) :: List.replicate n .un
abbrev law2B (q1 q2 q3 q4 q5 q6 q7 q8 q9 q10 q11 q12 q13 q14 q15 q16 q17 q18 : Pos) (k1 k2 : Nat) (N : Nat) (rest : List Stmt) : List Stmt :=
  [.For (.Name "turn" q1) (.Call (.Name "range" q2) [.Constant (.int (N : Int)) k1 q3] [] q4)
    (.Assign [.Name "stream" q5] (.Call (.Name "_law_stream" q6) [.BinOp (.Call (.Name "list" q7) [.Name "script" q8] [] q9) .Add (.List [.Name "turn" q10] q11) q12] [] q13) q14 :: rest) [] q15,
   .Return (some (.Constant (.bool true) k2 q16)) q17]
theorem sq_sub {K : PySem.W.Frag} {H H' : Hp} {a : Addr} {xs : List V} (k : ∀ o, H a = some o → H' a = some o) (h : SqL K H a xs) : SqL K H' a xs := by
  rcases h with h | h
  · rcases h with h | ⟨o, h⟩
    · exact .inl (.inl (k _ h))
    · exact .inl (.inr ⟨o, k _ h⟩)
  · exact .inr h
theorem law_fn2 {P : Program} {w : World} {K : PySem.W.Frag} {mg : Str → Option Value} {base : Heap} {us : List Str} {ct : Ct} {cl : Caller} {sg : Sig} {k : Nat} {a : Ann} {params : Arguments} {rest : List Stmt} {sc : Scope} {f : Addr} {fd : FuncData} {Nr : List Str} {q1 q2 q3 q4 q5 q6 q7 q8 q9 q10 q11 q12 q13 q14 q15 q16 q17 q18 : Pos} {k1 k2 N : Nat}
    (M : ModEnv P w K mg base us ct cl sg k) (F : FnFacts K "law" a ["script"] params (law2B q1 q2 q3 q4 q5 q6 q7 q8 q9 q10 q11 q12 q13 q14 q15 q16 q17 q18 k1 k2 N rest) sc f fd) (hN : a.N = ("script" : Str) :: ("turn" : Str) :: ("stream" : Str) :: Nr) (hn : N ≤ 1000)
    (hst : ∃ fa fdS, mg "_law_stream" = some (.ref fa) ∧ PySem.W.keepIn K (.ref fa) = true ∧ PlainPs fdS.params ∧ fdS.defaults = .none ∧ fdS.params.args.map (·.arg) = (["script"] : List Str) ∧ FnG P w K mg base (L2.CX P w) k fa fdS ["script"] (spStream K))
    (g1 : sc.names.lookup ("_law_stream" : Str) = some .globalImplicit) (g2 : sc.names.lookup ("range" : Str) = some .globalImplicit) (g3 : sc.names.lookup ("list" : Str) = some .globalImplicit) (l1 : isSto sc "script" = true) (l2 : isSto sc "stream" = true) (l3 : isSto sc "turn" = true)
    (law : ∀ (ad : Addr) (ns : List Int) (t : Int), ns.length ≤ 64 → 0 ≤ t → t < N → ∃ c', exL cl sg 1 false (cL us a 200 sc rest) ⟨law2R ad t Nr.length, [⟨ns, 0, 0, 19⟩]⟩ = .nx c' ∧ (∃ f, c'.r[0]? = some (.sh f (.obj ad))) ∧ c'.r.length = Nr.length + 3) :
    FnG P w K mg base (L2.CX P w) (k + 1) f fd ["script"] (spLaw K) := by
  obtain ⟨oc, od, kV, doc, pm, an, cdv, ctv, osl, rfl, lk, hcd⟩ := F.ex
  refine fn_ofG lk hcd F.S (fun vs H Q E ⟨a, ns, e, _⟩ => by rw [e]; rfl) fun A outer s H vs Q E hr ⟨ad, ns, e, hs, hlen, hq⟩ => ?_
  subst e
  have tk : Takes (cxOf (L2.CX P w) P w K mg base a.N "law" sc f cdv A outer s H E) (fun cls d _ H => E cls d H) := takes_of rfl rfl rfl rfl
  have env : DefEnv (cxOf (L2.CX P w) P w K mg base a.N "law" sc f cdv A outer s H E) us a ct cl sg k (fun cls d _ H => E cls d H) sc :=
    ⟨⟨rfl, F.S.nd, rfl, hr, M.blt, fun x hx => ⟨M.cals x hx⟩, M.nodbg⟩, rfl, F.S.kind, ⟨rfl, F.S.nd, fun z hz => ⟨isSto_loc hz, .inl rfl⟩⟩, passes_of rfl, tk, M.spoil _ rfl rfl rfl rfl rfl hr rfl _ tk⟩
  obtain ⟨fa, fdS, s1, s2, s3, s4, s5, s6⟩ := hst
  have n0 : (cxOf (L2.CX P w) P w K mg base a.N "law" sc f cdv A outer s H E).N[0]? = some ("script" : Str) := by show a.N[0]? = _; rw [hN]; rfl
  have n1 : (cxOf (L2.CX P w) P w K mg base a.N "law" sc f cdv A outer s H E).N[1]? = some ("turn" : Str) := by show a.N[1]? = _; rw [hN]; rfl
  have n2 : (cxOf (L2.CX P w) P w K mg base a.N "law" sc f cdv A outer s H E).N[2]? = some ("stream" : Str) := by show a.N[2]? = _; rw [hN]; rfl
  have vs : PE (cxOf (L2.CX P w) P w K mg base a.N "law" sc f cdv A outer s H E) (.Name "script" q8) (tVar 0) := pe_var n0 (isSto_vis l1)
  have vt : PE (cxOf (L2.CX P w) P w K mg base a.N "law" sc f cdv A outer s H E) (.Name "turn" q10) (tVar 1) := pe_var n1 (isSto_vis l3)
  have g1' : Gl (cxOf (L2.CX P w) P w K mg base a.N "law" sc f cdv A outer s H E) "_law_stream" := g1
  have g2' : Gl (cxOf (L2.CX P w) P w K mg base a.N "law" sc f cdv A outer s H E) "range" := g2
  have g3' : Gl (cxOf (L2.CX P w) P w K mg base a.N "law" sc f cdv A outer s H E) "list" := g3
  have mr : mg "range" = none := M.blt _ (by decide)
  have ml : mg "list" = none := M.blt _ (by decide)
  have call := pe_callP (X := cxOf (L2.CX P w) P w K mg base a.N "law" sc f cdv A outer s H E) (pos := q13) (p := q6) (ks := []) (E := WE fun cls d _ H => E cls d H) s6 hr g1' s1 s2 s3 s4 s5 (by decide) (fun σ => passAt tk σ)
    (pa_cons (pe_op (pos := q12) op_cat (pe_callTy (pos := q9) (p := q7) call_list_of g3' ml boot_list (pa_cons vs pa_nil)) (pe_lst (pos := q11) (pa_cons vt pa_nil))) pa_nil rfl) pk_nil rfl rfl (by decide) rfl (fun e => by cases e)
  refine ⟨_, pss_cons (ps_for (passes_of rfl) rfl (pi_range1 g2' mr (pa_cons pe_int pa_nil)) (pg_name F.S.nd n1 (isSto_loc l3) (.inl rfl)) (pss_cons (ps_set F.S.nd n2 (isSto_loc l2) call rfl (.inl rfl)) ((st_all env 200 1 false).2 rest))) (pss_one (ps_ret pe_bl)), ?_⟩
  have st0 : (L2.start a.N [V.ref ad])[0]? = some (some (.ref ad)) := start_get rfl
  have hlenN : (L2.start a.N [V.ref ad]).length = Nr.length + 3 := by
    unfold L2.start
    have : 1 ≤ a.N.length := by rw [hN]; simp
    simp [hN]
  refine ⟨(N : Int), rfl, by omega, by omega, ?_⟩
  rw [Int.toNat_natCast]
  refine for_range (lo := 0) (n := N) (fun _ σ' H' => σ'.length = Nr.length + 3 ∧ σ'[0]? = some (some (.ref ad)) ∧ SqL K H' ad (ns.map V.int)) ⟨hlenN, st0, hs⟩ ?_ ?_
  · rintro i σ' H' hi ⟨hl, h0, hsq⟩
    rw [Int.zero_add]
    show _
    -- stream = _law_stream(list(script) + [turn])
    have hg0 : (σ'.set 1 (some (V.int (i : Int))))[0]? = some (some (.ref ad)) := by rw [List.getElem?_set_ne (by decide)]; exact h0
    have hg1 : (σ'.set 1 (some (V.int (i : Int))))[1]? = some (some (.int (i : Int))) := List.getElem?_set_self (by omega)
    refine ⟨.ref ad, hg0, ad, ns.map V.int, rfl, .inl hsq, fun l hl1 => ?_⟩
    refine ⟨.int (i : Int), hg1, (by show 1 ≤ _; rw [sizeLine_eq]; decide), fun l2 hl2 => ?_⟩
    have nl : l ≠ l2 := fun z => by rw [← z, upd_same] at hl2; cases hl2
    refine ⟨l, l2, ns.map V.int, [.int (i : Int)], rfl, rfl, by rw [upd_ne nl, upd_same], upd_same, by rw [List.length_map, sizeLine_eq]; simp; omega, fun l3 hl3 => ?_⟩
    refine ⟨(by decide : permOk ["script"] [] 1 0 = true), ?_⟩
    rw [perm_all (as := [V.ref l3]) (ps := ["script"]) rfl]
    refine ⟨l3, _, rfl, .of upd_same, fun q p hq1 hqp hp1 => ?_⟩
    have em : ns.map V.int ++ [V.int (i : Int)] = (ns ++ [(i : Int)]).map V.int := by simp
    rw [em]
    rw [em] at hq1 hp1
    obtain ⟨c', he, ⟨f0, hc0⟩, hcl⟩ := law ad (ns ++ [(i : Int)]) (i : Int) (by simp; omega) (by omega) (by omega)
    have up : ∀ a o, H' a = some o → (upd (upd (upd H' l (.lst (ns.map V.int))) l2 (.lst [.int (i : Int)])) l3 (.lst ((ns ++ [(i : Int)]).map V.int))) a = some o := fun a o h => by
      have h1 : (upd H' l (.lst (ns.map V.int))) a = some o := by rw [upd_ne (ne_of_none h hl1)]; exact h
      have h2 : (upd (upd H' l (.lst (ns.map V.int))) l2 (.lst [.int (i : Int)])) a = some o := by rw [upd_ne (ne_of_none h1 hl2)]; exact h1
      rw [upd_ne (ne_of_none h2 hl3)]; exact h2
    generalize upd (upd (upd H' l (.lst (ns.map V.int))) l2 (.lst [.int (i : Int)])) l3 (.lst ((ns ++ [(i : Int)]).map V.int)) = Hb at hq1 hp1 up ⊢
    have up2 : ∀ a o, H' a = some o → (upd (upd Hb q (.lst ((ns ++ [(i : Int)]).map V.int))) p (.lst [.ref q, .int 0, .int 0, .int 19])) a = some o ∧ a ≠ p ∧ a ≠ q := fun a o h => by
      have h1 := up a o h
      have e1 := ne_of_none h1 hq1
      have e2 := ne_of_none h1 hp1
      exact ⟨by rw [upd_ne e2, upd_ne e1]; exact h1, e2, e1⟩
    generalize hHx : upd (upd Hb q (.lst ((ns ++ [(i : Int)]).map V.int))) p (.lst [.ref q, .int 0, .int 0, .int 19]) = Hx at up2
    have hxp : Hx p = some (.lst [.ref q, .int 0, .int 0, .int 19]) := by rw [← hHx, upd_same]
    have hxq : Hx q = some (.lst ((ns ++ [(i : Int)]).map V.int)) := by rw [← hHx, upd_ne hqp, upd_same]
    show tL ct cl sg _ 1 false (cL us a 200 sc rest) _ ((σ'.set 1 (some (V.int (i : Int)))).set 2 (some (.ref p))) Hx
    have offp : offH [(p, q)] Hx p = none := (offH_str (q := (p, q)) (by simp)).1
    have offq : offH [(p, q)] Hx q = none := (offH_str (q := (p, q)) (by simp)).2
    refine ⟨⟨offH [(p, q)] Hx, Hx, fun _ _ => none, [(p, q)]⟩, ⟨law2R ad (i : Int) Nr.length, [⟨ns ++ [(i : Int)], 0, 0, 19⟩]⟩, ?_, ?_⟩
    · refine ⟨Nat.le_refl _, fun a h => ?_, ⟨fun _ _ _ => Sub.refl _, fun _ _ => rfl⟩, fun a o h => (by cases h), fun a o h => (offH_some.mp h).2, fun a h => h, fun a o h => (by cases h), fun j sl hj => ?_, fun i j r ⟨⟨f, d, h⟩, _⟩ => ?_, ⟨rfl, fun g pq t e1 e2 => ?_, fun r hr => ?_, ?_⟩, ?_⟩
      · obtain ⟨o, ho⟩ := Option.ne_none_iff_exists'.mp h
        show Hx a ≠ none
        rw [(offH_some.mp ho).2]; exact (fun z => by cases z)
      · have hj : (law2R ad (i : Int) Nr.length)[j]? = some sl := hj
        unfold law2R at hj
        match j, hj with
        | 0, hj =>
          cases hj
          refine ⟨.ref ad, getD_some.mpr ?_, by simp [Rp]⟩
          rw [List.getElem?_set_ne (by decide)]; exact hg0
        | 1, hj =>
          cases hj
          refine ⟨.int (i : Int), getD_some.mpr ?_, by simp [Rp]⟩
          rw [List.getElem?_set_ne (by decide)]; exact hg1
        | 2, hj =>
          cases hj
          refine ⟨.ref p, getD_set_self (by simp; omega), ?_⟩
          simp only [Rp]
          exact ⟨(p, q), rfl, rfl⟩
        | j + 3, hj =>
          have hj : (List.replicate Nr.length Slot.un)[j]? = some sl := hj
          rw [List.getElem?_replicate] at hj
          split at hj
          · cases hj; trivial
          · cases hj
      · have h : (law2R ad _ Nr.length)[i]? = some (.ow f d) := h
        unfold law2R at h
        match i, h with
        | 0, h => cases h
        | 1, h => cases h
        | 2, h => cases h
        | i + 3, h =>
          have h : (List.replicate Nr.length Slot.un)[i]? = some (.ow f d) := h
          rw [List.getElem?_replicate] at h
          split at h <;> cases h
      · match g, e1, e2 with
        | 0, e1, e2 =>
          cases e1; cases e2
          exact ⟨hxp, hxq⟩
        | g + 1, e1, _ => simp at e1
      · simp only [List.mem_singleton] at hr
        subst hr
        exact ⟨rfl, rfl, offp, offq⟩
      · simp [Ne.symm hqp]
      · show (law2R ad (i : Int) Nr.length).length = ((σ'.set 1 (some (V.int (i : Int)))).set 2 (some (.ref p))).length
        rw [List.length_set, List.length_set, hl]
        simp [law2R]
    · rw [he]
      intro y' σ2 H2 x s2
      obtain ⟨v, e1, e2⟩ := s2.slots 0 _ hc0
      simp only [Rp] at e2
      subst e2
      refine ⟨by rw [← s2.len]; exact hcl, getD_some.mp e1, sq_sub (fun o ho => ?_) hsq⟩
      obtain ⟨a1, a2, a3⟩ := up2 ad o ho
      refine s2.prot ad o ?_
      rw [x.z]
      exact offH_some.mpr ⟨fun r hr => by simp only [List.mem_singleton] at hr; subst hr; exact ⟨a2, a3⟩, a1⟩
  · rintro σ' H' _
    exact hq H'
theorem At.law2 {P : Program} {w : World} {K : PySem.W.Frag} {mg : Str → Option Value} {us : List Str} {ct : Ct} {st : Stmt} {a : Ann} {fL : Addr} {sS : Stmt} {Nr : List Str} {rest : List Stmt} {q1 q2 q3 q4 q5 q6 q7 q8 q9 q10 q11 q12 q13 q14 q15 q16 q17 q18 : Pos} {k1 k2 N : Nat} {k : Nat} {cl : Caller} {sg : Sig} (h : At K mg "law" st) (hS : At K mg "_law_stream" sS) (blt : ∀ x ∈ bnames, mg x = none) (hmg : mg "law" = some (.ref fL))
    (tS : FnScope ["script"] ["script"] (defScope sS)) (plS : PlainPs (defArgs sS)) (hpsS : (defArgs sS).args.map (·.arg) = (["script"] : List Str)) (slS : (defScope sS).names.lookup ("script" : Str) = some .local) (sgS : (defScope sS).names.lookup ("list" : Str) = some .globalImplicit)
    {p1 p2 p3 p4 p5 p6 p7 p8 : Pos} {j1 j2 j3 : Nat} (hb : defBody sS = streamB p1 p2 p3 p4 p5 p6 p7 p8 j1 j2 j3)
    (S : FnScope a.N ["script"] (defScope st)) (pl : PlainPs (defArgs st)) (hps : (defArgs st).args.map (·.arg) = (["script"] : List Str)) (hbl : defBody st = law2B q1 q2 q3 q4 q5 q6 q7 q8 q9 q10 q11 q12 q13 q14 q15 q16 q17 q18 k1 k2 N rest) (hN : a.N = ("script" : Str) :: ("turn" : Str) :: ("stream" : Str) :: Nr) (hn : N ≤ 1000)
    (g1 : (defScope st).names.lookup ("_law_stream" : Str) = some .globalImplicit) (g2 : (defScope st).names.lookup ("range" : Str) = some .globalImplicit) (g3 : (defScope st).names.lookup ("list" : Str) = some .globalImplicit) (l1 : isSto (defScope st) "script" = true) (l2 : isSto (defScope st) "stream" = true) (l3 : isSto (defScope st) "turn" = true)
    (M : ∀ base : Heap, K.In base → base.Ns mainGlobals mg → ModEnv P w K mg base us ct cl sg (k + 1))
    (law : ∀ (ad : Addr) (ns : List Int) (t : Int), ns.length ≤ 64 → 0 ≤ t → t < N → ∃ c', exL cl sg 1 false (cL us a 200 (defScope st) rest) ⟨law2R ad t Nr.length, [⟨ns, 0, 0, 19⟩]⟩ = .nx c' ∧ (∃ f, c'.r[0]? = some (.sh f (.obj ad))) ∧ c'.r.length = Nr.length + 3) :
    ∃ fd : FuncData, (∀ (s : Shared) (u : Value), BindsTo s fd ⟨[u], []⟩ [("script", u)]) ∧ ∀ base : Heap, K.In base → base.Ns mainGlobals mg → FnG P w K mg base (L2.CX P w) (k + 2) fL fd ["script"] (spLaw K) := by
  obtain ⟨f, oc, od, kV, doc, pm, an, cdv, ctv, osl, h1, h2, h3, h4⟩ := h.ex
  rw [hmg] at h1
  cases h1
  obtain ⟨f', oc', od', kV', doc', pm', an', cdv', ctv', osl', g1', g2', g3', g4'⟩ := hS.ex
  rw [hbl] at h3
  refine ⟨PySem.W.fnOf "law" "law" (defArgs st) (law2B q1 q2 q3 q4 q5 q6 q7 q8 q9 q10 q11 q12 q13 q14 q15 q16 q17 q18 k1 k2 N rest) (defScope st) .none kV doc pm an cdv ctv, fun s u => .of_eq ?_, fun base hK hG => law_fn2 (M base hK hG) ⟨⟨oc, od, kV, doc, pm, an, cdv, ctv, osl, rfl, h3, h4⟩, S⟩ hN hn ⟨f', _, g1', g2', plS, rfl, hpsS, stream_fn ⟨⟨oc', od', kV', doc', pm', an', cdv', ctv', osl', rfl, g3', g4'⟩, tS⟩ slS sgS (blt _ (by decide)) hb⟩ g1 g2 g3 l1 l2 l3 law⟩
  exact bind_plain (fd := PySem.W.fnOf "law" "law" (defArgs st) (law2B q1 q2 q3 q4 q5 q6 q7 q8 q9 q10 q11 q12 q13 q14 q15 q16 q17 q18 k1 k2 N rest) (defScope st) .none kV doc pm an cdv ctv) (ks := []) (us := [u]) (ws := []) pl rfl (ps := ["script"]) hps (by decide) rfl
end Sd

/-! Pu0: the plain evaluator: no regions, no owners; and the look that finds what it needs of these beforehand. -/
namespace Sd
open PySem PySem.Spec PyProof.Rows L2
structure PC where
  e : List (Option D)
  s : List Stm
  deriving Inhabited
inductive PO (α : Type) where
  | ok (a : α) (c : PC)
  | exc (x : Str) (d : D) (c : PC)
  | stuck
inductive PF where
  | nx (c : PC)
  | rt (d : D) (c : PC)
  | exc (x : Str) (d : D) (c : PC)
  | stuck
/-- what a call comes to -/
inductive PR where
  | ok (d : D) (s : List Stm)
  | exc (x : Str) (d : D) (s : List Stm)
  | stuck
def PO.bind {α β : Type} (o : PO α) (f : α → PC → PO β) : PO β := match o with
  | .ok a c => f a c
  | .exc x d c => .exc x d c
  | .stuck => .stuck
def PO.w {α : Type} (o : PO α) (k : α → PC → PF) : PF := match o with
  | .ok a c => k a c
  | .exc x d c => .exc x d c
  | .stuck => .stuck
def PF.then (o : PF) (k : PC → PF) : PF := match o with
  | .nx c => k c
  | o => o
def PO.noX {α : Type} (o : PO α) : PO α := match o with
  | .ok a c => .ok a c
  | _ => .stuck
def pOpt {α : Type} (o : Option α) (c : PC) : PO α := match o with
  | some a => .ok a c
  | none => .stuck
abbrev PCaller := Str → List D → List Stm → PR
def wipeP (e : List (Option D)) : List Nat → List (Option D)
  | [] => e
  | v :: vs => (wipeP e vs).set v none
/-- as they stood in e0 -/
def backP (e0 e : List (Option D)) : List Nat → List (Option D)
  | [] => e
  | v :: vs => (backP e0 e vs).set v (e0.getD v none)
def setPs : List Nat → List D → List (Option D) → Option (List (Option D))
  | [], [], r => some r
  | t :: ts, d :: ds, r => setPs ts ds (r.set t (some d))
  | _, _, _ => none
def setPg (ts : List Nat) (one : Bool) (d : D) (r : List (Option D)) : Option (List (Option D)) :=
  if one then setPs ts [d] r else
    match d with
    | .tup xs => setPs ts xs r
    | .lst xs => setPs ts xs r
    | _ => none
def pcGo (own : List Nat) (one : D → PC → PO (Option D)) : List D → PC → PO (List D)
  | [], c => .ok [] c
  | x :: xs, c => (one x { c with e := wipeP c.e own }).bind fun o c => (pcGo own one xs c).bind fun ds c =>
    match o with
    | some d => .ok (d :: ds) c
    | none => .ok ds c
def pfGo (one : D → PC → PF) : List D → PC → PF
  | [], c => .nx c
  | x :: xs, c => match one x c with
    | .nx c => pfGo one xs c
    | o => o
def pwGo (test : PC → PO Bool) (body : PC → PF) : Nat → PC → PF
  | 0, _ => .stuck
  | n + 1, c => match test c with
    | .ok true c => match body c with
      | .nx c => pwGo test body n c
      | o => o
    | .ok false c => .nx c
    | .exc x d c => .exc x d c
    | .stuck => .stuck
def pOk (o : Option (Bool × D)) (c : PC) : PO D := match o with
  | some (_, d) => .ok d c
  | none => .stuck
def pT (o : PO D) : PO Bool := o.bind fun d c => pOpt (tru d) c
section
variable (cl : PCaller) (sg : Sig)
mutual
def pE : IE → PC → PO D
  | .non, c => .ok .non c
  | .bl b, c => .ok (.bl b) c
  | .int i, c => .ok (.int i) c
  | .str x, c => .ok (.str x) c
  | .var i, c => match c.e[i]? with
    | some (some d) => .ok d c
    | _ => .stuck
  | .op2 o a b, c => (pE a c).bind fun x c => (pE b c).bind fun y c => pOk (bin o x y) c
  | .neg a, c => (pE a c).bind fun x c => match x with
    | .int i => .ok (.int (-i)) c
    | _ => .stuck
  | .cmp o a b, c => (pE a c).bind fun x c => (pE b c).bind fun y c => (pOpt (cmpD o x y) c).bind fun k c => .ok (.bl k) c
  | .isN a, c => (pE a c).bind fun x c => match x with
    | .non => .ok (.bl true) c
    | _ => .ok (.bl false) c
  | .notN a, c => (pE a c).bind fun x c => match x with
    | .non => .ok (.bl false) c
    | _ => .ok (.bl true) c
  | .chn o o' a b d, c => (pE a c).bind fun x c => (pE b c).bind fun y c => (pOpt (cmpD o x y) c).bind fun k c =>
      if k then (pE d c).bind fun z c => (pOpt (cmpD o' y z) c).bind fun k c => .ok (.bl k) c
      else .ok (.bl false) c
  | .and a b, c => (pE a c).bind fun x c => match x with
    | .bl true => pE b c
    | .bl false => .ok (.bl false) c
    | _ => .stuck
  | .or a b, c => (pE a c).bind fun x c => match x with
    | .bl false => pE b c
    | .bl true => .ok (.bl true) c
    | _ => .stuck
  | .not a, c => (pT (pE a c)).bind fun k c => .ok (.bl (!k)) c
  | .ite t a b, c => (pT (pE t c)).bind fun k c => if k then pE a c else pE b c
  | .lst xs, c => (pSt xs c).bind fun ds c => if ds.length ≤ SZ then .ok (.lst ds) c else .stuck
  | .tup xs, c => (pA xs c).bind fun ds c => if ds.length ≤ SZ then .ok (.tup ds) c else .stuck
  | .star _, _ => .stuck
  | .ix a i, c => (pE a c).bind fun x c => (pE i c).bind fun y c => pOpt (ixD x y) c
  | .slc a lo hi, c => (pE a c).bind fun x c => (pP lo c).bind fun l c => (pP hi c).bind fun h c =>
    match x with
    | .lst xs => .ok (.lst (cutD xs l h)) c
    | .tup xs => .ok (.tup (cutD xs l h)) c
    | _ => .stuck
  | .rev a, c => (pE a c).bind fun x c => match x with
    | .lst xs => .ok (.lst xs.reverse) c
    | _ => .stuck
  | .call f as ks kas, c => (pA as c).bind fun ds c => (pA kas c).bind fun dk c =>
    match byName (sg f) ds ks dk with
    | some args => match cl f args c.s with
      | .ok d s => .ok d { c with s := s }
      | .exc x d s => .exc x d { c with s := s }
      | .stuck => .stuck
    | none => .stuck
  | .blt b as, c => (pA as c).bind fun ds c => pOk (bltD b ds) c
  | .isa a ts, c => (pE a c).bind fun x c => match x with
    | .stm _ => .stuck
    | .obj _ => .stuck
    | d => .ok (.bl (ts.any fun t => isTy t d)) c
  | .mth m i as, c => (pA as c).bind fun ds c => match c.e[i]? with
    | some (some (.lst xs)) => match mthD m xs ds with
      | some (d, ys) => .ok d { c with e := c.e.set i (some (.lst ys)) }
      | none => .stuck
    | _ => .stuck
  | .lc e ts one it cs, c => (pIt it c).bind fun xs c0 => if xs.length ≤ SZ then
      (pcGo ts (fun x c => (pOpt (setPg ts one x c.e) c).bind fun r c =>
        (pCs cs { c with e := r }).bind fun k c => if k then (pE e c).bind fun d c => .ok (some d) c else .ok none c) xs c0).noX.bind fun ds c =>
        .ok (.lst ds) { c with e := backP c0.e c.e ts }
    else .stuck
  | .lrng as, c => (pA as c).bind fun ds c => (pOpt (lrngD ds) c).bind fun xs c => .ok (.lst xs) c
  | .never, _ => .stuck
def pCs : List IE → PC → PO Bool
  | [], c => .ok true c
  | e :: es, c => (pT (pE e c)).bind fun k c => if k then pCs es c else .ok false c
def pA : List IE → PC → PO (List D)
  | [], c => .ok [] c
  | e :: es, c => (pE e c).bind fun d c => (pA es c).bind fun ds c => .ok (d :: ds) c
def pSt : List IE → PC → PO (List D)
  | [], c => .ok [] c
  | .star e :: es, c => (pE e c).bind fun d c => match seqOf d with
      | some xs => (pSt es c).bind fun ds c => .ok (xs ++ ds) c
      | none => .stuck
  | e :: es, c => (pE e c).bind fun d c => (pSt es c).bind fun ds c => .ok (d :: ds) c
def pP : List IE → PC → PO (Option Int)
  | [], c => .ok none c
  | e :: _, c => (pE e c).bind fun d c => match d with
    | .int i => .ok (some i) c
    | _ => .stuck
def pIt : IT → PC → PO (List D)
  | .rng as, c => (pA as c).bind fun ds c => pOpt (rngD ds) c
  | .zip a b, c => (pE a c).bind fun x c => (pE b c).bind fun y c =>
    match seqOf x, seqOf y with
    | some xs, some ys => .ok (zipD xs ys) c
    | _, _ => .stuck
  | .enm a st, c => (pE a c).bind fun x c => (pP st c).bind fun k c =>
    if rOk (k.getD 0) then match seqOf x with
    | some xs => .ok (enmD (k.getD 0) xs) c
    | none => .stuck
    else .stuck
  | .e a, c => (pE a c).bind fun d c => pOpt (seqOf d) c
  | .itm _, _ => .stuck
end
def pN : List (Bool × IE) → PC → PO (List D)
  | [], c => .ok [] c
  | (_, e) :: es, c => (pE cl sg e c).bind fun d c => (pN es c).bind fun ds c => .ok (d :: ds) c
mutual
def pS : IS → PC → PF
  | .expr e, c => (pE cl sg e c).w fun _ c => .nx c
  | .asg i _ e, c => (pE cl sg e c).w fun d c => .nx { c with e := c.e.set i (some d) }
  | .asgT ts e, c => (pE cl sg e c).w fun d c => (pOpt ((seqOf d).bind fun xs => setPs ts xs c.e) c).w fun r c => .nx { c with e := r }
  | .par ts es, c => (pA cl sg es c).w fun ds c => (pOpt (setPs ts ds c.e) c).w fun r c => .nx { c with e := r }
  | .parO ts es, c => (pN cl sg es c).w fun ds c => (pOpt (setPs ts ds c.e) c).w fun r c => .nx { c with e := r }
  | .setIx i ix e, c => (pE cl sg e c).w fun d c => (pE cl sg ix c).w fun k c =>
    match c.e[i]?, k with
    | some (some (.lst xs)), .int k => match ixN xs.length k with
      | some j => .nx { c with e := c.e.set i (some (.lst (xs.set j d))) }
      | none => .stuck
    | _, _ => .stuck
  | .ret e, c => (pE cl sg e c).w fun d c => .rt d c
  | .retN, c => .rt .non c
  | .ite t a b, c => (pT (pE cl sg t c)).w fun k c => if k then pL a c else pL b c
  | .for ts one it body, c => (pIt cl sg it c).w fun xs c =>
    pfGo (fun x c => (pOpt (setPg ts one x c.e) c).w fun r c => pL body { c with e := r }) xs c
  | .while t body, c => pwGo (fun c => pT (pE cl sg t c)) (fun c => pL body c) fuel c
  | .raise x as, c => (pA cl sg as c).w fun ds c => match ds with
    | [d] => .exc x d c
    | _ => .stuck
  | .pass, c => .nx c
  | .wipe ws, c => .nx { c with e := wipeP c.e ws }
  | .scope body, c => pL body c
  | .spoil e, c => (pE cl sg e c).w fun d c => if spOk 20 d && decide (2 * nodes d ≤ SZ) then .nx c else .stuck
  | .never, _ => .stuck
def pL : List IS → PC → PF
  | [], c => .nx c
  | s :: ss, c => (pS s c).then fun c => pL ss c
end
end
def pPrim (f : Str) (as : List D) (s : List Stm) : PR :=
  if f = nDraw then match as with
    | [.stm g, .int many] => match s[g]? with
      | some t => match draw t many with
        | some (i, t') => .ok (.int i) (s.set g t')
        | none => .stuck
      | none => .stuck
    | _ => .stuck
  else if f = nStream then match as with
    | [.lst xs] => match intsOf xs with
      | some ns => .ok (.stm s.length) (s ++ [⟨ns, 0, 0, 19⟩])
      | none => .stuck
    | _ => .stuck
  else .stuck
def startP (fd : Fd) (as : List D) : List (Option D) := as.map some ++ List.replicate (fd.N.length - as.length) none
def endP : PF → PR
  | .nx c => .ok .non c.s
  | .rt d c => .ok d c.s
  | .exc x d c => .exc x d c.s
  | .stuck => .stuck
def callP (P : Pg) : Nat → PCaller
  | 0, _, _, _ => .stuck
  | n + 1, f, as, s => match P.lookup f with
    | some fd => if as.length = fd.ps.length then endP (pL (callP P n) (sgOf P) fd.body ⟨startP fd as, s⟩) else .stuck
    | none => pPrim f as s

/-! ### the look -/
/-- a slot: nothing is known; data in a region; an owned list; one of both -/
inductive AS where
  | un | sh (f : Fl) | ow (f : Fl) | so (f : Fl) | nt
  deriving DecidableEq, Inhabited
/-- a result: data, or a new thing; a new thing; the list that slot i owned -/
inductive AR where
  | val (f : Fl) | new (f : Fl) | bor (i : Nat) (f : Fl) | nt
  deriving DecidableEq, Inhabited
def Fl.leB (f g : Fl) : Bool := decide (min big g.lo ≤ f.lo) && decide (f.hi ≤ g.hi)
def AS.leB (lv : Nat) : AS → AS → Bool
  | _, .un => true
  | .sh f, .sh g => f.leB g
  | .sh f, .so g => f.leB g
  | .so f, .so g => f.leB g
  | .ow f, .ow g => f.leB g
  | .ow f, .so g => (f.join (.at lv)).leB g
  | .nt, .nt => true
  | .nt, .sh _ => true
  | .nt, .so _ => true
  | _, _ => false
def AS.join (lv : Nat) : AS → AS → AS
  | .sh f, .sh g => .sh (f.join g)
  | .ow f, .ow g => .ow (f.join g)
  | .sh f, .so g => .so (f.join g)
  | .so f, .sh g => .so (f.join g)
  | .so f, .so g => .so (f.join g)
  | .ow f, .sh g => .so ((f.join (.at lv)).join g)
  | .sh f, .ow g => .so (f.join (g.join (.at lv)))
  | .ow f, .so g => .so ((f.join (.at lv)).join g)
  | .so f, .ow g => .so (f.join (g.join (.at lv)))
  | .nt, .nt => .nt
  | .nt, .sh g => .sh g
  | .sh f, .nt => .sh f
  | .nt, .so g => .so g
  | .so f, .nt => .so f
  | _, _ => .un
def leA (lv : Nat) : List AS → List AS → Bool
  | [], [] => true
  | a :: as, b :: bs => a.leB lv b && leA lv as bs
  | _, _ => false
def joinA (lv : Nat) : List AS → List AS → List AS
  | a :: as, b :: bs => a.join lv b :: joinA lv as bs
  | _, _ => []
def joinC (lv : Nat) (A B : List AS) : Option (List AS) := if A.length = B.length then some (joinA lv A B) else none
def notOw : AS → Bool
  | .ow _ => false
  | _ => true
def notOws (A : List AS) (is : List Nat) : Bool := is.all fun i => notOw (A.getD i .un)
/-- as an operand -/
def AR.fo (lv : Nat) : AR → Fl
  | .val f => f
  | .new f => f.join (.at lv)
  | .bor _ f => f.join (.at lv)
  | .nt => Fl.top
/-- frozen: the slots, the region -/
def frzA (lv : Nat) (A : List AS) : AR → List AS
  | .bor i f => A.set i (.sh (f.join (.at lv)))
  | _ => A
def frzAs (lv : Nat) (A : List AS) : List AR → List AS
  | [] => A
  | r :: rs => frzAs lv (frzA lv A r) rs
def foAs (lv : Nat) : List AR → Fl
  | [] => Fl.top
  | r :: rs => (r.fo lv).join (foAs lv rs)
/-- its list surely is a new one -/
def newF (b : Bool) (lv : Nat) (f : Fl) : AR := if b then .new f else .val (f.join (.at lv))
mutual
/-- it is a list, if anything -/
def isL : IE → Bool
  | .lst _ => true | .lc .. => true | .lrng _ => true
  | .blt .list _ => true | .blt .sorted _ => true
  | .op2 .add a b => isL a || isL b
  | .op2 .mul a _ => isL a
  | .slc a _ _ => isL a
  | .rev _ => true
  | .ite _ a b => isL a && isL b
  | _ => false
end
mutual
/-- the slots that it may hand on as they are -/
def vars : IE → List Nat
  | .var i => [i]
  | .and _ b => vars b
  | .or _ b => vars b
  | .ite _ a b => vars a ++ vars b
  | _ => []
end
mutual
/-- it changes no list -/
def noM : IE → Bool
  | .non => true | .bl _ => true | .int _ => true | .str _ => true | .var _ => true
  | .op2 _ a b => noM a && noM b
  | .neg a => noM a
  | .cmp _ a b => noM a && noM b
  | .isN a => noM a
  | .notN a => noM a
  | .chn _ _ a b c => noM a && noM b && noM c
  | .and a b => noM a && noM b
  | .or a b => noM a && noM b
  | .not a => noM a
  | .ite t a b => noM t && noM a && noM b
  | .lst xs => noMs xs
  | .tup xs => noMs xs
  | .star a => noM a
  | .ix a i => noM a && noM i
  | .slc a lo hi => noM a && noMs lo && noMs hi
  | .rev a => noM a
  | .call _ as _ kas => noMs as && noMs kas
  | .blt _ as => noMs as
  | .isa a _ => noM a
  | .mth _ _ _ => false
  | .lc e _ _ it cs => noM e && noMi it && noMs cs
  | .lrng as => noMs as
  | .never => true
def noMs : List IE → Bool
  | [] => true
  | e :: es => noM e && noMs es
def noMi : IT → Bool
  | .e a => noM a | .rng as => noMs as | .zip a b => noM a && noM b | .enm a st => noM a && noMs st | .itm a => noM a
end
mutual
/-- the names of its comprehensions -/
def tgts : IE → List Nat
  | .op2 _ a b => tgts a ++ tgts b
  | .neg a => tgts a
  | .cmp _ a b => tgts a ++ tgts b
  | .isN a => tgts a
  | .notN a => tgts a
  | .chn _ _ a b c => tgts a ++ tgts b ++ tgts c
  | .and a b => tgts a ++ tgts b
  | .or a b => tgts a ++ tgts b
  | .not a => tgts a
  | .ite t a b => tgts t ++ tgts a ++ tgts b
  | .lst xs => tgtss xs
  | .tup xs => tgtss xs
  | .star a => tgts a
  | .ix a i => tgts a ++ tgts i
  | .slc a lo hi => tgts a ++ tgtss lo ++ tgtss hi
  | .rev a => tgts a
  | .call _ as _ kas => tgtss as ++ tgtss kas
  | .blt _ as => tgtss as
  | .isa a _ => tgts a
  | .mth _ _ as => tgtss as
  | .lc e ts _ it cs => ts ++ tgts e ++ tgtsi it ++ tgtss cs
  | .lrng as => tgtss as
  | _ => []
def tgtss : List IE → List Nat
  | [] => []
  | e :: es => tgts e ++ tgtss es
def tgtsi : IT → List Nat
  | .e a => tgts a | .rng as => tgtss as | .zip a b => tgts a ++ tgts b | .enm a st => tgts a ++ tgtss st | .itm a => tgts a
end
/-- what is handed on by a stays while others are asked that change nothing -/
def keepB (vs : List Nat) (nm : Bool) (tg : List Nat) : Bool := vs.isEmpty || (nm && vs.all fun i => !tg.contains i)
def joinR (lv : Nat) (a b : AR) : AR := match a, b with
  | .new f, .new g => .new (f.join g)
  | .nt, .nt => .nt
  | a, b => .val ((a.fo lv).join (b.fo lv))
/-- no owner any more, maybe -/
def loosen (lv : Nat) (A : List AS) : AR → List AS
  | .bor i f => A.set i (.so (f.join (.at lv)))
  | _ => A
def scalB : Bt → Bool
  | .abs => true | .len => true | .sum => true | .all => true | .any => true | .int => true | .repr => true
  | _ => false
def fixA {β : Type} (lv : Nat) (step : List AS → Option (List AS × β)) : Nat → List AS → Option (List AS × β)
  | 0, _ => none
  | n + 1, A => match step A with
  | some (A', x) => if leA lv A' A then some (A, x) else (joinC lv A A').bind fun B => fixA lv step n B
    | none => none
/-- ks: which of the things are integers for sure -/
def setAs (f : Fl) : List Bool → List Nat → List AS → List AS
  | _, [], A => A
  | [], t :: ts, A => setAs f [] ts (A.set t (.sh f))
  | k :: ks, t :: ts, A => setAs f ks ts (A.set t (if k then .nt else .sh f))
/-- what is walked: any things; integers; pairs that begin with one -/
inductive Kd where
  | any | allI | firstI
  deriving DecidableEq
def Kd.ks (k : Kd) (one : Bool) : List Bool := match k, one with
  | .allI, true => [true]
  | .firstI, false => [true]
  | _, _ => []
def wipeA (A : List AS) : List Nat → List AS
  | [] => A
  | v :: vs => (wipeA A vs).set v .un
def backA (A0 A : List AS) : List Nat → List AS
  | [] => A
  | v :: vs => (backA A0 A vs).set v (match A0.getD v .un with | .sh f => .sh f | _ => .un)
/-- a def's: what it hands back, what it raises -/
abbrev Sm := Str → Fl × Fl × Bool
def AR.isI : AR → Bool
  | .nt => true
  | _ => false
def intB : Bt → Bool
  | .abs => true | .len => true | .sum => true | .int => true
  | _ => false
def varss : List IE → List Nat
  | [] => []
  | e :: es => vars e ++ varss es
def loosens (lv : Nat) (A : List AS) : List AR → List AS
  | [] => A
  | r :: rs => loosens lv (loosen lv A r) rs
def retF (lv : Nat) (f : Fl) (a : Fl) : Fl := if decide (1 ≤ f.lo) then .at lv else a.join (.at lv)
section
variable (sm : Sm)
mutual
/-- the slots behind it, the result, what is raised -/
def lkE (lv : Nat) : IE → List AS → Option (List AS × AR × Fl)
  | .non, A => some (A, .val Fl.top, Fl.top)
  | .bl _, A => some (A, .val Fl.top, Fl.top)
  | .int _, A => some (A, .nt, Fl.top)
  | .str _, A => some (A, .val Fl.top, Fl.top)
  | .var i, A => match A.getD i .un with
    | .sh f => some (A, .val f, Fl.top)
    | .so f => some (A, .val f, Fl.top)
    | .nt => some (A, .nt, Fl.top)
    | .ow f => some (A, .bor i f, Fl.top)
    | .un => none
  | .op2 o a b, A => (lkE lv a A).bind fun (A1, R1, x1) => (lkE lv b A1).bind fun (A2, R2, x2) =>
    if keepB (vars a) (noM b) (tgts b) then
      match o with
      | .add => some (A2, if R1.isI || R2.isI then .nt else newF (isL a || isL b) lv ((R1.fo lv).join (R2.fo lv)), x1.join x2)
      | .mul => some (A2, if R1.isI then .nt else newF (isL a) lv ((R1.fo lv).join (R2.fo lv)), x1.join x2)
      | _ => some (A2, .nt, x1.join x2)
    else none
  | .neg a, A => (lkE lv a A).bind fun (A1, _, x) => some (A1, .nt, x)
  | .cmp _ a b, A => (lkE lv a A).bind fun (A1, R1, x1) => (lkE lv b A1).bind fun (A2, R2, x2) =>
    if keepB (vars a) (noM b) (tgts b) then some (A2, .val Fl.top, x1.join x2) else none
  | .isN a, A => (lkE lv a A).bind fun (A1, _, x) => some (A1, .val Fl.top, x)
  | .notN a, A => (lkE lv a A).bind fun (A1, _, x) => some (A1, .val Fl.top, x)
  | .chn _ _ a b d, A => (lkE lv a A).bind fun (A1, R1, x1) => (lkE lv b A1).bind fun (A2, R2, x2) => (lkE lv d A2).bind fun (A3, R3, x3) =>
    if keepB (vars a) (noM b) (tgts b) && keepB (vars b) (noM d) (tgts d) then (joinC lv A2 A3).bind fun A4 => some (A4, .val Fl.top, (x1.join x2).join x3) else none
  | .and a b, A => (lkE lv a A).bind fun (A1, _, x1) => (lkE lv b A1).bind fun (A2, R2, x2) => (joinC lv A1 (loosen lv A2 R2)).bind fun A3 => some (A3, .val (R2.fo lv), x1.join x2)
  | .or a b, A => (lkE lv a A).bind fun (A1, _, x1) => (lkE lv b A1).bind fun (A2, R2, x2) => (joinC lv A1 (loosen lv A2 R2)).bind fun A3 => some (A3, .val (R2.fo lv), x1.join x2)
  | .not a, A => (lkE lv a A).bind fun (A1, _, x) => some (A1, .val Fl.top, x)
  | .ite t a b, A => (lkE lv t A).bind fun (A1, _, x1) => (lkE lv a A1).bind fun (A2, R2, x2) => (lkE lv b A1).bind fun (A3, R3, x3) =>
    (joinC lv (loosen lv A2 R2) (loosen lv A3 R3)).bind fun A4 => some (A4, joinR lv R2 R3, (x1.join x2).join x3)
  | .lst xs, A => (lkSt lv xs A).bind fun (A1, f, x) => some (A1, .new f, x)
  | .tup xs, A => (lkF lv xs A).bind fun (A1, f, _, x) => some (A1, .val (f.join (.at lv)), x)
  | .star _, A => some (A, .val Fl.top, Fl.top)
  | .ix a i, A => (lkE lv a A).bind fun (A1, R1, x1) => (lkE lv i A1).bind fun (A2, R2, x2) =>
    if keepB (vars a) (noM i) (tgts i) then some (A2, .val (R1.fo lv), x1.join x2) else none
  | .slc a lo hi, A => (lkE lv a A).bind fun (A1, R1, x1) => (lkPs lv lo A1).bind fun (A2, x2) => (lkPs lv hi A2).bind fun (A3, x3) =>
    if keepB (vars a) (noMs lo && noMs hi) (tgtss lo ++ tgtss hi) then some (A3, newF (isL a) lv (R1.fo lv), (x1.join x2).join x3) else none
  | .rev a, A => (lkE lv a A).bind fun (A1, R1, x) => some (A1, .new (R1.fo lv), x)
  | .call f as _ kas, A => (lkA lv as A).bind fun (A1, Rs, x1) => (lkA lv kas A1).bind fun (A2, Ks, x2) =>
    if keepB (varss as) (noMs kas) (tgtss kas) then
      some (if decide (1 ≤ (sm f).1.lo) then A2 else loosens lv (loosens lv A2 Rs) Ks, if (sm f).2.2 then .nt else .val (retF lv (sm f).1 ((foAs lv Rs).join (foAs lv Ks))), (x1.join x2).join (retF lv (sm f).2.1 ((foAs lv Rs).join (foAs lv Ks))))
    else none
  | .blt b as, A => (lkA lv as A).bind fun (A1, Rs, x) =>
    some (A1, if intB b then .nt else if scalB b then .val Fl.top else newF (isL (.blt b as)) lv (foAs lv Rs), x)
  | .isa a _, A => (lkE lv a A).bind fun (A1, _, x) => some (A1, .val Fl.top, x)
  | .mth _ i as, A => match A.getD i .un with
    | .ow _ => (lkF lv as A).bind fun (A1, g, _, x) => match A1.getD i .un with
      | .ow f => some (A1.set i (.ow (f.join g)), .val (f.join g), x)
      | _ => none
    | _ => none
  | .lc e ts one it cs, A => (lkIt lv it A).bind fun (A1, f, kd, x1) =>
    (fixA lv (fun B => (lkCs lv cs (setAs f (kd.ks one) ts (wipeA B ts))).bind fun (B1, y1) => (lkE lv e B1).bind fun (B2, R, y2) => (joinC lv B1 (frzA lv B2 R)).bind fun B3 => some (B3, R.fo lv, y1.join y2)) 8 A1).bind fun (B, g, x2) =>
      some (backA A1 (wipeA B ts) ts, .new g, x1.join x2)
  | .lrng as, A => (lkF lv as A).bind fun (A1, _, _, x) => some (A1, .new Fl.top, x)
  | .never, A => some (A, .val Fl.top, Fl.top)
def lkCs (lv : Nat) : List IE → List AS → Option (List AS × Fl)
  | [], A => some (A, Fl.top)
  | e :: es, A => (lkE lv e A).bind fun (A1, _, x1) => (lkCs lv es A1).bind fun (A2, x2) => (joinC lv A1 A2).bind fun A3 => some (A3, x1.join x2)
def lkA (lv : Nat) : List IE → List AS → Option (List AS × List AR × Fl)
  | [], A => some (A, [], Fl.top)
  | e :: es, A => (lkE lv e A).bind fun (A1, R, x1) => (lkA lv es A1).bind fun (A2, Rs, x2) =>
    if keepB (vars e) (noMs es) (tgtss es) then some (A2, R :: Rs, x1.join x2) else none
def lkF (lv : Nat) : List IE → List AS → Option (List AS × Fl × List Bool × Fl)
  | [], A => some (A, Fl.top, [], Fl.top)
  | e :: es, A => (lkE lv e A).bind fun (A1, R, x1) => (lkF lv es (frzA lv A1 R)).bind fun (A2, f, ks, x2) => some (A2, (R.fo lv).join f, R.isI :: ks, x1.join x2)
def lkSt (lv : Nat) : List IE → List AS → Option (List AS × Fl × Fl)
  | [], A => some (A, Fl.top, Fl.top)
  | .star e :: es, A => (lkE lv e A).bind fun (A1, R, x1) => (lkSt lv es A1).bind fun (A2, f, x2) => some (A2, (R.fo lv).join f, x1.join x2)
  | e :: es, A => (lkE lv e A).bind fun (A1, R, x1) => (lkSt lv es (frzA lv A1 R)).bind fun (A2, f, x2) => some (A2, (R.fo lv).join f, x1.join x2)
def lkPs (lv : Nat) : List IE → List AS → Option (List AS × Fl)
  | [], A => some (A, Fl.top)
  | e :: _, A => (lkE lv e A).bind fun (A1, _, x) => some (A1, x)
def lkIt (lv : Nat) : IT → List AS → Option (List AS × Fl × Kd × Fl)
  | .rng as, A => (lkF lv as A).bind fun (A1, _, _, x) => some (A1, Fl.top, .allI, x)
  | .zip a b, A => (lkE lv a A).bind fun (A1, R1, x1) => (lkE lv b (frzA lv A1 R1)).bind fun (A2, R2, x2) => some (frzA lv A2 R2, (R1.fo lv).join (R2.fo lv), .any, x1.join x2)
  | .enm a st, A => (lkE lv a A).bind fun (A1, R1, x1) => (lkPs lv st (frzA lv A1 R1)).bind fun (A2, x2) => some (A2, R1.fo lv, .firstI, x1.join x2)
  | .e a, A => (lkE lv a A).bind fun (A1, R1, x1) => some (frzA lv A1 R1, R1.fo lv, .any, x1)
  | .itm _, A => some (A, Fl.top, .any, Fl.top)
end
/-- a row's: the slots behind it if anything goes on there, what is handed back, what is raised -/
structure LS where
  nx : Option (List AS)
  rt : Fl
  ti : Bool
  x : Fl
def lownA (lv : Nat) (A : List AS) (own : Bool) (R : AR) : List AS × AS :=
  match own, R with
  | _, .nt => (A, .nt)
  | true, .new f => (A, .ow f)
  | true, .val f => (A, .so f)
  | _, R => (frzA lv A R, .sh (R.fo lv))
def lkN (lv : Nat) : List (Bool × IE) → List AS → Option (List AS × List AS × Fl)
  | [], A => some (A, [], Fl.top)
  | (o, e) :: es, A => (lkE sm lv e A).bind fun (A1, R, x1) => (lkN lv es (lownA lv A1 o R).1).bind fun (A2, ss, x2) => some (A2, (lownA lv A1 o R).2 :: ss, x1.join x2)
def setAss : List Nat → List AS → List AS → List AS
  | t :: ts, a :: as, A => setAss ts as (A.set t a)
  | _, _, A => A
def joinO (lv : Nat) : Option (List AS) → Option (List AS) → Option (Option (List AS))
  | some A, some B => (joinC lv A B).map some
  | some A, none => some (some A)
  | none, o => some o
def liftA (lv : Nat) : AS → AS
  | .so f => .so (f.join (.at (lv + 1)))
  | a => a
def Fl.cl (lv : Nat) (f : Fl) : Fl := ⟨min f.lo lv, min f.hi lv⟩
def AS.cl (lv : Nat) : AS → AS
  | .un => .un
  | .sh f => .sh (f.cl lv)
  | .ow f => .ow (f.cl lv)
  | .so f => .so (f.cl lv)
  | .nt => .nt
def AS.spoil (lv : Nat) : AS → AS
  | .un => .un
  | .sh f => if decide (lv ≤ f.hi) then .un else .sh f
  | .ow f => if decide (lv ≤ f.hi) then .un else .ow f
  | .so f => if decide (lv ≤ f.hi) then .un else .so f
  | .nt => .nt
mutual
def lkI (lv : Nat) (sp : Bool) : IS → List AS → Option LS
  | .expr e, A => (lkE sm lv e A).bind fun (A1, _, x) => some ⟨some A1, Fl.top, true, x⟩
  | .asg i own e, A => (lkE sm lv e A).bind fun (A1, R, x) => some ⟨some ((lownA lv A1 own R).1.set i (lownA lv A1 own R).2), Fl.top, true, x⟩
  | .asgT ts e, A => (lkE sm lv e A).bind fun (A1, R, x) => some ⟨some (setAs (R.fo lv) [] ts (frzA lv A1 R)), Fl.top, true, x⟩
  | .par ts es, A => (lkF sm lv es A).bind fun (A1, f, ks, x) => some ⟨some (setAs f ks ts A1), Fl.top, true, x⟩
  | .parO ts es, A => (lkN sm lv es A).bind fun (A1, ss, x) => some ⟨some (setAss ts ss A1), Fl.top, true, x⟩
  | .setIx i ix e, A => (lkE sm lv e A).bind fun (A1, R1, x1) => match (frzA lv A1 R1).getD i .un with
    | .ow _ => (lkE sm lv ix (frzA lv A1 R1)).bind fun (A2, R2, x2) => match (frzA lv A2 R2).getD i .un with
      | .ow f => some ⟨some ((frzA lv A2 R2).set i (.ow (f.join (R1.fo lv)))), Fl.top, true, x1.join x2⟩
      | _ => none
    | _ => none
  | .ret e, A => (lkE sm lv e A).bind fun (_, R, x) => some ⟨none, R.fo lv, R.isI, x⟩
  | .retN, _ => some ⟨none, Fl.top, false, Fl.top⟩
  | .ite t a b, A => (lkE sm lv t A).bind fun (A1, _, x1) => (lkL lv sp a A1).bind fun S => (lkL lv sp b A1).bind fun T =>
    (joinO lv S.nx T.nx).bind fun nx => some ⟨nx, S.rt.join T.rt, S.ti && T.ti, (x1.join S.x).join T.x⟩
  | .for ts one it body, A => (lkIt sm lv it A).bind fun (A1, f, kd, x1) =>
    (fixA lv (fun B => (lkL lv false body (setAs f (kd.ks one) ts B)).bind fun S => some (S.nx.getD B, S.rt, S.ti, S.x)) 8 A1).bind fun (B, rt, ti, x2) =>
      some ⟨some B, rt, ti, x1.join x2⟩
  | .while t body, A => (fixA lv (fun B => (lkE sm lv t B).bind fun (B1, _, x1) => (lkL lv false body B1).bind fun S => some (S.nx.getD B, S.rt, S.ti, x1.join S.x)) 8 A).bind fun (B, rt, ti, x) =>
      (lkE sm lv t B).bind fun (B1, _, _) => some ⟨some B1, rt, ti, x⟩
  | .raise _ as, A => (lkF sm lv as A).bind fun (_, f, _, x) => some ⟨none, Fl.top, true, f.join x⟩
  | .pass, A => some ⟨some A, Fl.top, true, Fl.top⟩
  | .wipe ws, A => some ⟨some (wipeA A ws), Fl.top, true, Fl.top⟩
  | .scope body, A => (lkL (lv + 1) true body (A.map (liftA lv))).bind fun S => some ⟨S.nx.map (·.map (AS.cl lv)), S.rt.cl lv, S.ti, S.x.cl lv⟩
  | .spoil e, A => if sp then (lkE sm lv e A).bind fun (A1, R, x) => if decide (lv ≤ (R.fo lv).lo) && decide (lv ≤ big) then some ⟨some ((frzA lv A1 R).map (AS.spoil lv)), Fl.top, true, x⟩ else none
    else none
  | .never, _ => some ⟨none, Fl.top, true, Fl.top⟩
def lkL (lv : Nat) (sp : Bool) : List IS → List AS → Option LS
  | [], A => some ⟨some A, Fl.top, true, Fl.top⟩
  | s :: ss, A => (lkI lv sp s A).bind fun S => match S.nx with
    | none => some S
    | some A1 => (lkL lv sp ss A1).bind fun T => some ⟨T.nx, S.rt.join T.rt, S.ti && T.ti, S.x.join T.x⟩
end
end
def startA (fd : Fd) : List AS := fd.ps.map (fun _ => .sh ⟨0, 0⟩) ++ List.replicate (fd.N.length - fd.ps.length) .un
def lkFd (sm : Sm) (fd : Fd) : Option (Fl × Fl × Bool) := (lkL sm 1 false fd.body (startA fd)).map fun S => (S.rt, S.x, S.ti && S.nx.isNone)
abbrev Tb := List (Str × Fl × Fl × Bool)
def smOf (T : Tb) : Sm := fun f => if f = nDraw then (Fl.top, Fl.top, true) else (T.lookup f).getD (⟨0, 0⟩, ⟨0, 0⟩, false)
/-- the look at a program -/
def lkPg (P : Pg) (T : Tb) : Bool := ((P.lookup nDraw).isNone && !(smOf T nStream).2.2) && P.all fun (f, fd) => match lkFd (smOf T) fd with
  | some (r, x, i) => r.leB (smOf T f).1 && x.leB (smOf T f).2.1 && (i || !(smOf T f).2.2)
  | none => false
end Sd

/-! Pu1: plain states beside states with regions. -/
namespace Sd
open PySem PySem.Spec PyProof.Rows L2
theorem leB_iff {f g : Fl} : f.leB g = true ↔ min big g.lo ≤ f.lo ∧ f.hi ≤ g.hi := by
  unfold Fl.leB; rw [Bool.and_eq_true, decide_eq_true_iff, decide_eq_true_iff]
/-- f is within g -/
def Fl.le (f g : Fl) : Prop := min big g.lo ≤ f.lo ∧ f.hi ≤ g.hi
theorem Fl.le_of {f g : Fl} (h : f.leB g = true) : f.le g := leB_iff.mp h
theorem Fl.le.rf {f : Fl} : f.le f := ⟨by omega, by omega⟩
theorem Fl.le.trans {f g h : Fl} (a : f.le g) (b : g.le h) : f.le h := by
  unfold Fl.le at *; omega
theorem Fl.le.top {g : Fl} : Fl.top.le g := by
  unfold Fl.le Fl.top; exact ⟨Nat.min_le_left _ _, Nat.zero_le _⟩
theorem Fl.le.jl {f g : Fl} : f.le (f.join g) := by unfold Fl.le Fl.join; simp only; omega
theorem Fl.le.jr {f g : Fl} : g.le (f.join g) := by unfold Fl.le Fl.join; simp only; omega
theorem Fl.le.join {f g h : Fl} (a : f.le h) (b : g.le h) : (f.join g).le h := by unfold Fl.le Fl.join at *; simp only; omega
theorem Fl.le.mono {f g h i : Fl} (a : f.le h) (b : g.le i) : (f.join g).le (h.join i) := by unfold Fl.le Fl.join at *; simp only; omega
theorem Fl.le.jl' {f g h : Fl} (a : f.le g) : f.le (g.join h) := a.trans .jl
theorem Fl.le.jr' {f g h : Fl} (a : f.le g) : f.le (h.join g) := a.trans .jr
theorem nrm_le {d : D} {f g : Fl} (h : f.le g) : (nrm d f).le g := by
  unfold nrm; split
  · exact .top
  · exact h
theorem Fl.le.clamp {lv : Nat} {f g : Fl} (h : f.le g) : (f.clamp lv).le (g.cl lv) := by
  unfold Fl.clamp; split
  · exact .top
  · unfold Fl.le Fl.cl at *; simp only; omega
/-- a new thing is a list -/
def isLst (d : D) : Prop := ∃ xs, d = .lst xs
def isInt (d : D) : Prop := ∃ i, d = .int i
/-- a slot as it is said, and its data -/
def SlotS (lv : Nat) : AS → Slot → Option D → Prop
  | .un, _, _ => True
  | .sh g, .sh f d, o => f.le g ∧ o = some d
  | .nt, .sh f d, o => f.le Fl.top ∧ o = some d ∧ isInt d
  | .so g, .sh f d, o => f.le g ∧ o = some d
  | .so g, .ow f d, o => (f.join (.at lv)).le g ∧ o = some d ∧ isLst d
  | .ow g, .ow f d, o => f.le g ∧ o = some d ∧ isLst d
  | _, _, _ => False
theorem SlotS.up {lv : Nat} {a b : AS} {s : Slot} {o : Option D} (h : SlotS lv a s o) (l : a.leB lv b = true) : SlotS lv b s o := by
  cases b with
  | un => trivial
  | nt => cases a <;> simp only [AS.leB] at l <;> first | cases l | skip
          exact h
  | sh g => cases a <;> simp only [AS.leB] at l <;> first | cases l | skip
            · cases s <;> first | exact h.elim | exact ⟨h.1.trans (Fl.le_of l), h.2⟩
            · cases s <;> first | exact h.elim | exact ⟨h.1.trans .top, h.2.1⟩
  | ow g => cases a <;> simp only [AS.leB] at l <;> first | cases l | skip
            cases s <;> first | exact h.elim | exact ⟨h.1.trans (Fl.le_of l), h.2⟩
  | so g =>
    cases a <;> simp only [AS.leB] at l <;> first | cases l | skip
    · cases s <;> first | exact h.elim | exact ⟨h.1.trans (Fl.le_of l), h.2⟩
    · cases s <;> first | exact h.elim | exact ⟨(Fl.le.mono h.1 .rf).trans (Fl.le_of l), h.2⟩
    · cases s <;> first | exact h.elim | exact ⟨h.1.trans (Fl.le_of l), h.2⟩
    · cases s <;> first | exact h.elim | exact ⟨h.1.trans .top, h.2.1⟩
theorem SlotS.joinL {lv : Nat} {a b : AS} {s : Slot} {o : Option D} (h : SlotS lv a s o) : SlotS lv (a.join lv b) s o := by
  cases a <;> cases b <;> simp only [AS.join] <;> first | trivial | (cases s <;> first | exact h.elim | skip)
  all_goals first
    | exact ⟨h.1.jl', h.2⟩
    | exact ⟨(Fl.le.mono h.1 .rf).jl', h.2⟩
    | exact h
    | exact ⟨h.1.trans .top, h.2.1⟩
theorem SlotS.joinR {lv : Nat} {a b : AS} {s : Slot} {o : Option D} (h : SlotS lv b s o) : SlotS lv (a.join lv b) s o := by
  cases a <;> cases b <;> simp only [AS.join] <;> first | trivial | (cases s <;> first | exact h.elim | skip)
  all_goals first
    | exact ⟨h.1.jr', h.2⟩
    | exact ⟨(Fl.le.mono h.1 .rf).jr', h.2⟩
    | exact h
    | exact ⟨h.1.trans .top, h.2.1⟩
theorem gD {α : Type} {l : List α} {i : Nat} {d x : α} (h : l[i]? = some x) : l.getD i d = x := by rw [List.getD_eq_getElem?_getD, h]; rfl
theorem gD_set {α : Type} {l : List α} {i j : Nat} {d x : α} : (l.set i x).getD j d = if i = j then (if j < l.length then x else d) else l.getD j d := by
  rw [List.getD_eq_getElem?_getD, List.getElem?_set]
  split
  · rename_i h
    split
    · rename_i h2; rw [if_pos (by omega)]; rfl
    · rename_i h2; rw [if_neg (by omega)]; rfl
  · rw [← List.getD_eq_getElem?_getD]
theorem set_getD_self {α : Type} {l : List α} {i : Nat} {d : α} : l.set i (l.getD i d) = l := by
  refine List.ext_getElem? fun j => ?_
  rw [List.getElem?_set]
  by_cases e : i = j
  · subst e
    by_cases h : i < l.length
    · rw [if_pos rfl, if_pos h, List.getD_eq_getElem?_getD, List.getElem?_eq_getElem h]; rfl
    · rw [if_pos rfl, if_neg h, List.getElem?_eq_none (by omega)]
  · rw [if_neg e]
structure Sim (lv : Nat) (A : List AS) (c : C) (p : PC) : Prop where
  la : A.length = c.r.length
  lp : p.e.length = c.r.length
  at_ : ∀ i, SlotS lv (A.getD i .un) (c.r.getD i .un) (p.e.getD i none)
  s : c.s = p.s
theorem Sim.up {lv : Nat} {A B : List AS} {c : C} {p : PC} (h : Sim lv A c p) (hl : B.length = A.length) (k : ∀ i, (A.getD i .un).leB lv (B.getD i .un) = true) : Sim lv B c p :=
  ⟨hl.trans h.la, h.lp, fun i => (h.at_ i).up (k i), h.s⟩
theorem leA_get {lv : Nat} : ∀ {A B : List AS}, leA lv A B = true → B.length = A.length ∧ ∀ i, (A.getD i .un).leB lv (B.getD i .un) = true
  | [], [], _ => ⟨rfl, fun i => rfl⟩
  | a :: A, b :: B, h => by
    simp only [leA, Bool.and_eq_true] at h
    obtain ⟨h1, h2⟩ := leA_get h.2
    refine ⟨by simp [h1], fun i => ?_⟩
    cases i with
    | zero => exact h.1
    | succ i => exact h2 i
  | [], _ :: _, h => by simp [leA] at h
  | _ :: _, [], h => by simp [leA] at h
theorem Sim.leA {lv : Nat} {A B : List AS} {c : C} {p : PC} (h : Sim lv A c p) (k : leA lv A B = true) : Sim lv B c p := h.up (leA_get k).1 (leA_get k).2
theorem joinA_len {lv : Nat} : ∀ {A B : List AS}, A.length = B.length → (joinA lv A B).length = A.length
  | [], [], _ => rfl
  | _ :: A, _ :: B, h => by simp only [joinA, List.length_cons]; rw [joinA_len (by simpa using h)]
theorem joinA_get {lv : Nat} : ∀ {A B : List AS} (i : Nat), A.length = B.length → (joinA lv A B).getD i .un = (A.getD i .un).join lv (B.getD i .un)
  | [], [], i, _ => rfl
  | a :: A, b :: B, i, h => by
    cases i with
    | zero => rfl
    | succ i => exact joinA_get i (by simpa using h)
theorem Sim.joinL {lv : Nat} {A B : List AS} {c : C} {p : PC} (h : Sim lv A c p) (hl : A.length = B.length) : Sim lv (joinA lv A B) c p :=
  ⟨(joinA_len hl).trans h.la, h.lp, fun i => by rw [joinA_get i hl]; exact (h.at_ i).joinL, h.s⟩
theorem Sim.joinR {lv : Nat} {A B : List AS} {c : C} {p : PC} (h : Sim lv B c p) (hl : A.length = B.length) : Sim lv (joinA lv A B) c p :=
  ⟨((joinA_len hl).trans hl).trans h.la, h.lp, fun i => by rw [joinA_get i hl]; exact (h.at_ i).joinR, h.s⟩
/-- a slot is set, here and there -/
theorem Sim.set {lv : Nat} {A : List AS} {c : C} {p : PC} {i : Nat} {a : AS} {s : Slot} {o : Option D} (h : Sim lv A c p) (k : SlotS lv a s o) : Sim lv (A.set i a) { c with r := c.r.set i s } { p with e := p.e.set i o } := by
  refine ⟨by simpa using h.la, by simpa using h.lp, fun j => ?_, h.s⟩
  show SlotS lv ((A.set i a).getD j .un) ((c.r.set i s).getD j .un) ((p.e.set i o).getD j none)
  simp only [gD_set, h.la, h.lp]
  by_cases e : i = j
  · simp only [if_pos e]
    by_cases e2 : j < c.r.length
    · simp only [if_pos e2]; exact k
    · simp only [if_neg e2]; trivial
  · simp only [if_neg e]; exact h.at_ j
theorem Sim.setS {lv : Nat} {A : List AS} {c : C} {p : PC} {i : Nat} {a : AS} {s : Slot} (h : Sim lv A c p) (k : SlotS lv a s (p.e.getD i none)) : Sim lv (A.set i a) { c with r := c.r.set i s } p := by
  have q := h.set (i := i) k
  have e : p.e.set i (p.e.getD i none) = p.e := set_getD_self
  rw [e] at q
  exact q
/-- only the slot is said otherwise -/
theorem Sim.say {lv : Nat} {A : List AS} {c : C} {p : PC} {i : Nat} {a : AS} (h : Sim lv A c p) (k : i < c.r.length → SlotS lv a (c.r.getD i .un) (p.e.getD i none)) : Sim lv (A.set i a) c p := by
  refine ⟨by simpa using h.la, h.lp, fun j => ?_, h.s⟩
  simp only [gD_set, h.la]
  by_cases e : i = j
  · subst e
    simp only [if_true]
    by_cases e2 : i < c.r.length
    · simp only [if_pos e2]; exact k e2
    · simp only [if_neg e2]; trivial
  · simp only [if_neg e]; exact h.at_ j
/-- the slot has changed, what is said of it holds still -/
theorem Sim.slot {lv : Nat} {A : List AS} {c : C} {p : PC} {i : Nat} {s : Slot} (h : Sim lv A c p) (k : SlotS lv (A.getD i .un) s (p.e.getD i none)) : Sim lv A { c with r := c.r.set i s } p := by
  refine ⟨by simpa using h.la, by simpa using h.lp, fun j => ?_, h.s⟩
  show SlotS lv (A.getD j .un) ((c.r.set i s).getD j .un) (p.e.getD j none)
  simp only [gD_set]
  by_cases e : i = j
  · subst e
    simp only [if_true]
    by_cases e2 : i < c.r.length
    · simp only [if_pos e2]; exact k
    · simp only [if_neg e2]
      have e3 : A.getD i .un = .un := by rw [List.getD_eq_getElem?_getD, List.getElem?_eq_none (by rw [h.la]; omega)]; rfl
      rw [e3]; trivial
  · simp only [if_neg e]; exact h.at_ j
/-! ### what an expression hands on -/
def SlotStep (lv : Nat) (s t : Slot) : Prop := t = s ∨ ∃ f d, s = .ow f d ∧ t = .sh (f.join (.at lv)) d
theorem SlotStep.refl {lv : Nat} {s : Slot} : SlotStep lv s s := .inl rfl
theorem SlotStep.trans {lv : Nat} {s t u : Slot} (a : SlotStep lv s t) (b : SlotStep lv t u) : SlotStep lv s u := by
  rcases a with rfl | ⟨f, d, rfl, rfl⟩
  · exact b
  · rcases b with rfl | ⟨g, e, h, _⟩
    · exact .inr ⟨f, d, rfl, rfl⟩
    · cases h
/-- a result, as it is said; vs: the slots that it may stand in -/
def RelA (lv : Nat) (A : List AS) (c : C) (p : PC) (vs : List Nat) (r : R) (d : D) (R : AR) : Prop := match r with
  | .val f d' => d' = d ∧ (match R with | .val g => f.le g | .nt => f.le Fl.top ∧ isInt d | _ => False)
  | .new f d' => d' = d ∧ isLst d ∧ (match R with | .val g => (f.join (.at lv)).le g | .new g => f.le g | _ => False)
  | .bor i => i ∈ vs ∧ p.e.getD i none = some d ∧ ∃ f, match R with
    | .val g => (c.r.getD i .un = .sh f d ∧ f.le g) ∨ (c.r.getD i .un = .ow f d ∧ (f.join (.at lv)).le g ∧ notOw (A.getD i .un) = true ∧ isLst d)
    | .new _ => False
    | .nt => False
    | .bor j g => j = i ∧ ((c.r.getD i .un = .sh f d ∧ f.le (g.join (.at lv))) ∨ (c.r.getD i .un = .ow f d ∧ f.le g ∧ isLst d))
/-- .. while nothing is changed -/
theorem RelA.keep {lv : Nat} {A A' : List AS} {c c' : C} {p p' : PC} {vs : List Nat} {r : R} {d : D} {R : AR} (h : RelA lv A c p vs r d R) (n : ∀ i ∈ vs, notOw (A.getD i .un) = true → notOw (A'.getD i .un) = true) (k : ∀ i ∈ vs, SlotStep lv (c.r.getD i .un) (c'.r.getD i .un)) (hp : ∀ i ∈ vs, p'.e.getD i none = p.e.getD i none) : RelA lv A' c' p' vs r d R := by
  cases r with
  | val f e => exact h
  | new f e => exact h
  | bor i =>
    obtain ⟨hi, hd, f, h⟩ := h
    have k := k i hi
    have n := n i hi
    refine ⟨hi, (hp i hi).trans hd, ?_⟩
    cases R with
    | new g => exact h.elim
    | nt => exact h.elim
    | val g =>
      rcases h with ⟨h1, h2⟩ | ⟨h1, h2, h3, hl⟩
      · rcases k with k | ⟨f', d', k1, k2⟩
        · exact ⟨f, .inl ⟨by rw [k]; exact h1, h2⟩⟩
        · rw [h1] at k1; cases k1
      · rcases k with k | ⟨f', d', k1, k2⟩
        · exact ⟨f, .inr ⟨by rw [k]; exact h1, h2, n h3, hl⟩⟩
        · rw [h1] at k1; cases k1
          exact ⟨f.join (.at lv), .inl ⟨k2, h2⟩⟩
    | bor j g =>
      obtain ⟨hj, h⟩ := h
      rcases h with ⟨h1, h2⟩ | ⟨h1, h2, hl⟩
      · rcases k with k | ⟨f', d', k1, k2⟩
        · exact ⟨f, hj, .inl ⟨by rw [k]; exact h1, h2⟩⟩
        · rw [h1] at k1; cases k1
      · rcases k with k | ⟨f', d', k1, k2⟩
        · exact ⟨f, hj, .inr ⟨by rw [k]; exact h1, h2, hl⟩⟩
        · rw [h1] at k1; cases k1
          exact ⟨f.join (.at lv), hj, .inl ⟨k2, Fl.le.mono h2 .rf⟩⟩
/-- what is seen of it -/
theorem RelA.look {lv : Nat} {A : List AS} {c : C} {p : PC} {vs : List Nat} {r : R} {d : D} {R : AR} (h : RelA lv A c p vs r d R) : ∃ f, look c r = some (f, d) ∧ f.le (R.fo lv) := by
  cases r with
  | val f e =>
    obtain ⟨rfl, h⟩ := h
    cases R <;> first | exact h.elim | exact ⟨f, rfl, h⟩ | exact ⟨f, rfl, h.1⟩
  | new f e =>
    obtain ⟨rfl, _, h⟩ := h
    cases R <;> first | exact h.elim | exact ⟨f, rfl, Fl.le.jl.trans h⟩ | exact ⟨f, rfl, h.jl'⟩
  | bor i =>
    obtain ⟨_, hd, f, h⟩ := h
    have get : ∀ {s : Slot}, c.r.getD i .un = s → s ≠ .un → c.r[i]? = some s := fun {s} e ne => by
      cases hh : c.r[i]? with
      | none => rw [List.getD_eq_getElem?_getD, hh] at e; exact absurd e.symm ne
      | some t => rw [gD hh] at e; rw [e]
    have sh : ∀ {f : Fl}, c.r.getD i .un = .sh f d → Sd.look c (.bor i) = some (f, d) := fun e => by
      simp only [Sd.look, get e (by intro z; cases z)]
    have ow : ∀ {f : Fl}, c.r.getD i .un = .ow f d → Sd.look c (.bor i) = some (f, d) := fun e => by
      simp only [Sd.look, get e (by intro z; cases z)]
    cases R with
    | new g => exact h.elim
    | nt => exact h.elim
    | val g =>
      rcases h with ⟨h1, h2⟩ | ⟨h1, h2, _⟩
      · exact ⟨f, sh h1, h2⟩
      · exact ⟨f, ow h1, Fl.le.jl.trans h2⟩
    | bor j g =>
      rcases h.2 with ⟨h1, h2⟩ | ⟨h1, h2, _⟩
      · exact ⟨f, sh h1, h2⟩
      · exact ⟨f, ow h1, h2.jl'⟩
/-- frozen -/
theorem RelA.frz {lv : Nat} {A : List AS} {c : C} {p : PC} {vs : List Nat} {r : R} {d : D} {R : AR} (h : RelA lv A c p vs r d R) (s : Sim lv A c p) :
    ∃ f c', Sd.frz lv c r = .ok (f, d) c' ∧ f.le (R.fo lv) ∧ Sim lv (frzA lv A R) c' p ∧ (∀ i, SlotStep lv (c.r.getD i .un) (c'.r.getD i .un)) := by
  cases r with
  | val f e =>
    obtain ⟨rfl, h⟩ := h
    cases R <;> first | exact h.elim | exact ⟨f, c, rfl, h, s, fun _ => .refl⟩ | exact ⟨f, c, rfl, h.1, s, fun _ => .refl⟩
  | new f e =>
    obtain ⟨rfl, _, h⟩ := h
    cases R <;> first | exact h.elim | exact ⟨f.join (.at lv), c, rfl, h, s, fun _ => .refl⟩ | exact ⟨f.join (.at lv), c, rfl, Fl.le.mono h .rf, s, fun _ => .refl⟩
  | bor i =>
    obtain ⟨_, hd, f, h⟩ := h
    have get : ∀ {s : Slot}, c.r.getD i .un = s → s ≠ .un → c.r[i]? = some s := fun {s} e ne => by
      cases hh : c.r[i]? with
      | none => rw [List.getD_eq_getElem?_getD, hh] at e; exact absurd e.symm ne
      | some t => rw [gD hh] at e; rw [e]
    have sh : ∀ {f : Fl}, c.r.getD i .un = .sh f d → Sd.frz lv c (.bor i) = .ok (f, d) c := fun e => by
      simp only [Sd.frz, get e (by intro z; cases z)]
    have ow : ∀ {f : Fl}, c.r.getD i .un = .ow f d → Sd.frz lv c (.bor i) = .ok (f.join (.at lv), d) { c with r := c.r.set i (.sh (f.join (.at lv)) d) } := fun e => by
      simp only [Sd.frz, get e (by intro z; cases z)]
    have step : ∀ {f : Fl}, c.r.getD i .un = .ow f d → ∀ j, SlotStep lv (c.r.getD j .un) ((c.r.set i (.sh (f.join (.at lv)) d)).getD j .un) := fun {f} e j => by
      rw [gD_set]
      by_cases ij : i = j
      · subst ij
        rw [if_pos rfl]
        have hl : i < c.r.length := (List.getElem?_eq_some_iff.mp (get e (by intro z; cases z))).1
        rw [if_pos hl]
        exact .inr ⟨f, d, e, rfl⟩
      · rw [if_neg ij]; exact .refl
    cases R with
    | new g => exact h.elim
    | nt => exact h.elim
    | val g =>
      rcases h with ⟨h1, h2⟩ | ⟨h1, h2, h3, _⟩
      · exact ⟨f, c, sh h1, h2, s, fun _ => .refl⟩
      · refine ⟨_, _, ow h1, h2, s.slot ?_, step h1⟩
        have q := s.at_ i
        rw [h1] at q
        cases ha : A.getD i .un with
        | un => trivial
        | sh g' => rw [ha] at q; exact q.elim
        | ow g' => rw [ha] at h3; cases h3
        | nt => rw [ha] at q; exact q.elim
        | so g' => rw [ha] at q; exact ⟨q.1, q.2.1⟩
    | bor j g =>
      obtain ⟨rfl, h⟩ := h
      rcases h with ⟨h1, h2⟩ | ⟨h1, h2, _⟩
      · exact ⟨f, c, sh h1, h2, s.say fun _ => by rw [h1, hd]; exact ⟨h2, rfl⟩, fun _ => .refl⟩
      · exact ⟨_, _, ow h1, Fl.le.mono h2 .rf, s.setS (by rw [hd]; exact ⟨Fl.le.mono h2 .rf, rfl⟩), step h1⟩

/-- as an operand -/
def AR.op (lv : Nat) : AR → AR
  | .new f => .val (f.join (.at lv))
  | R => R
theorem AR.fo_op {lv : Nat} {R : AR} : (R.op lv).fo lv = R.fo lv := by cases R <;> rfl
theorem RelA.opd {lv : Nat} {A : List AS} {c : C} {p : PC} {vs : List Nat} {r : R} {d : D} {R : AR} (h : RelA lv A c p vs r d R) : ∃ r', Sd.opd lv c r = .ok r' c ∧ RelA lv A c p vs r' d (R.op lv) := by
  cases r with
  | val f e => refine ⟨_, rfl, ?_⟩; cases R <;> first | exact h | exact h.2.elim
  | new f e =>
    obtain ⟨rfl, hl, h⟩ := h
    refine ⟨_, rfl, ?_⟩
    cases R <;> first | exact h.elim | exact ⟨rfl, h⟩ | exact ⟨rfl, Fl.le.mono h .rf⟩
  | bor i => refine ⟨_, rfl, ?_⟩; cases R <;> first | exact h | (obtain ⟨_, _, _, h⟩ := h; exact h.elim)
/-- the owner is one maybe no more -/
theorem Sim.loosen {lv : Nat} {A : List AS} {c : C} {p : PC} {vs : List Nat} {r : R} {d : D} {R : AR} (s : Sim lv A c p) (h : RelA lv A c p vs r d R) : Sim lv (loosen lv A R) c p ∧ RelA lv (loosen lv A R) c p vs r d (.val (R.fo lv)) := by
  cases r with
  | val f e =>
    obtain ⟨rfl, h⟩ := h
    cases R <;> first | exact h.elim | exact ⟨s, rfl, h⟩ | exact ⟨s, rfl, h.1⟩
  | new f e =>
    obtain ⟨rfl, hl, h⟩ := h
    cases R <;> first | exact h.elim | exact ⟨s, rfl, hl, h⟩ | exact ⟨s, rfl, hl, Fl.le.mono h .rf⟩
  | bor i =>
    obtain ⟨hi, hd, f, h⟩ := h
    cases R with
    | new g => exact h.elim
    | nt => exact h.elim
    | val g => exact ⟨s, hi, hd, f, h⟩
    | bor j g =>
      obtain ⟨rfl, h⟩ := h
      have nw : notOw (((A.set j (.so (g.join (.at lv)))).getD j .un)) = true := by
        rw [gD_set, if_pos rfl]; split <;> rfl
      rcases h with ⟨h1, h2⟩ | ⟨h1, h2, hl⟩
      · exact ⟨s.say fun _ => by rw [h1, hd]; exact ⟨h2, rfl⟩, hi, hd, f, .inl ⟨h1, h2⟩⟩
      · exact ⟨s.say fun _ => by rw [h1, hd]; exact ⟨Fl.le.mono h2 .rf, rfl, hl⟩, hi, hd, f, .inr ⟨h1, Fl.le.mono h2 .rf, nw, hl⟩⟩
theorem notOw_set {A : List AS} {i j : Nat} {a : AS} (h : notOw (A.getD j .un) = true) (ha : notOw a = true) : notOw ((A.set i a).getD j .un) = true := by
  rw [gD_set]; split
  · split
    · exact ha
    · rfl
  · exact h
theorem notOw_joinL {lv : Nat} {a b : AS} (h : notOw a = true) : notOw (a.join lv b) = true := by cases a <;> cases b <;> first | rfl | cases h
theorem notOw_joinR {lv : Nat} {a b : AS} (h : notOw b = true) : notOw (a.join lv b) = true := by cases a <;> cases b <;> first | rfl | cases h
end Sd

/-! Pu2: expressions, plainly and with regions. -/
namespace Sd
open PySem PySem.Spec PyProof.Rows L2
def SimO {α β : Type} (o : Out α) (po : PO β) (x : Fl) (K : α → C → β → PC → Prop) : Prop := match po with
  | .ok b p => ∃ a c, o = .ok a c ∧ K a c b p
  | .exc cls d p => ∃ fl c, o = .exc ⟨cls, fl, d⟩ c ∧ fl.le x ∧ c.s = p.s
  | .stuck => True
theorem SimO.bind {α β γ δ : Type} {o : Out α} {po : PO β} {f : α → C → Out γ} {g : β → PC → PO δ} {x y z : Fl} {K : α → C → β → PC → Prop} {L : γ → C → δ → PC → Prop}
    (h : SimO o po x K) (hx : x.le z) (hy : y.le z) (k : ∀ a c b p, K a c b p → SimO (f a c) (g b p) y L) : SimO (o.bind f) (po.bind g) z L := by
  cases po with
  | ok b p =>
    obtain ⟨a, c, rfl, h⟩ := h
    have := k a c b p h
    show SimO (f a c) (g b p) z L
    unfold SimO at this ⊢
    split at this
    · exact this
    · obtain ⟨fl, c, e, h1, h2⟩ := this; exact ⟨fl, c, e, h1.trans hy, h2⟩
    · trivial
  | exc cls d p =>
    obtain ⟨fl, c, rfl, h1, h2⟩ := h
    exact ⟨fl, c, rfl, h1.trans hx, h2⟩
  | stuck => trivial
theorem SimO.imp {α β : Type} {o : Out α} {po : PO β} {x y : Fl} {K L : α → C → β → PC → Prop} (h : SimO o po x K) (hx : x.le y) (k : ∀ a c b p, K a c b p → L a c b p) : SimO o po y L := by
  cases po with
  | ok b p => obtain ⟨a, c, e, h⟩ := h; exact ⟨a, c, e, k _ _ _ _ h⟩
  | exc cls d p => obtain ⟨fl, c, e, h1, h2⟩ := h; exact ⟨fl, c, e, h1.trans hx, h2⟩
  | stuck => trivial
theorem SimO.ok {α β : Type} {a : α} {b : β} {c : C} {p : PC} {x : Fl} {K : α → C → β → PC → Prop} (h : K a c b p) : SimO (.ok a c) (.ok b p) x K := ⟨a, c, rfl, h⟩
theorem SimO.opt {α : Type} {o : Option α} {c : C} {p : PC} {x : Fl} {K : α → C → α → PC → Prop} (h : ∀ a, o = some a → K a c a p) : SimO (ofOpt o c) (pOpt o p) x K := by
  cases o with
  | none => trivial
  | some a => exact ⟨a, c, rfl, h a rfl⟩
/-- what has been done on the way -/
structure StepR (lv : Nat) (nm : Bool) (tg : List Nat) (A A' : List AS) (c c' : C) (p p' : PC) : Prop where
  len : A'.length = A.length
  now : ∀ i, notOw (A.getD i .un) = true → notOw (A'.getD i .un) = true
  e : nm = true → p'.e = p.e
  sl : nm = true → ∀ i, i ∉ tg → SlotStep lv (c.r.getD i .un) (c'.r.getD i .un)
theorem StepR.refl {lv : Nat} {nm : Bool} {tg : List Nat} {A : List AS} {c : C} {p : PC} : StepR lv nm tg A A c c p p := ⟨rfl, fun _ h => h, fun _ => rfl, fun _ _ _ => .refl⟩
theorem StepR.trans {lv : Nat} {n1 n2 nm : Bool} {t1 t2 tg : List Nat} {A A' A'' : List AS} {c c' c'' : C} {p p' p'' : PC} (a : StepR lv n1 t1 A A' c c' p p') (b : StepR lv n2 t2 A' A'' c' c'' p' p'')
    (hn : nm = true → n1 = true ∧ n2 = true) (ht : ∀ i, i ∉ tg → i ∉ t1 ∧ i ∉ t2) : StepR lv nm tg A A'' c c'' p p'' :=
  ⟨b.len.trans a.len, fun i h => b.now i (a.now i h), fun h => (b.e (hn h).2).trans (a.e (hn h).1), fun h i hi => (a.sl (hn h).1 i (ht i hi).1).trans (b.sl (hn h).2 i (ht i hi).2)⟩
theorem StepR.imp {lv : Nat} {n1 nm : Bool} {t1 tg : List Nat} {A A' : List AS} {c c' : C} {p p' : PC} (a : StepR lv n1 t1 A A' c c' p p') (hn : nm = true → n1 = true) (ht : ∀ i, i ∉ tg → i ∉ t1) : StepR lv nm tg A A' c c' p p' :=
  ⟨a.len, a.now, fun h => a.e (hn h), fun h i hi => a.sl (hn h) i (ht i hi)⟩
/-- only what is said of the slots is less -/
theorem StepR.say {lv : Nat} {nm : Bool} {tg : List Nat} {A A' A'' : List AS} {c c' : C} {p p' : PC} (a : StepR lv nm tg A A' c c' p p') (hl : A''.length = A'.length) (hn : ∀ i, notOw (A'.getD i .un) = true → notOw (A''.getD i .un) = true) : StepR lv nm tg A A'' c c' p p' :=
  ⟨hl.trans a.len, fun i h => hn i (a.now i h), a.e, a.sl⟩
theorem frzA_len {lv : Nat} {A : List AS} {R : AR} : (frzA lv A R).length = A.length := by cases R <;> simp [frzA]
theorem frzA_now {lv : Nat} {A : List AS} {R : AR} (i : Nat) (h : notOw (A.getD i .un) = true) : notOw ((frzA lv A R).getD i .un) = true := by
  cases R <;> first | exact h | exact notOw_set h rfl
theorem loosen_len {lv : Nat} {A : List AS} {R : AR} : (loosen lv A R).length = A.length := by cases R <;> simp [loosen]
theorem loosen_now {lv : Nat} {A : List AS} {R : AR} (i : Nat) (h : notOw (A.getD i .un) = true) : notOw ((loosen lv A R).getD i .un) = true := by
  cases R <;> first | exact h | exact notOw_set h rfl
theorem joinC_some {lv : Nat} {A B X : List AS} (h : joinC lv A B = some X) : A.length = B.length ∧ X = joinA lv A B := by
  unfold joinC at h
  split at h
  · rename_i e; cases h; exact ⟨e, rfl⟩
  · cases h
theorem joinA_nowL {lv : Nat} {A B : List AS} (hl : A.length = B.length) (i : Nat) (h : notOw (A.getD i .un) = true) : notOw ((joinA lv A B).getD i .un) = true := by
  rw [joinA_get i hl]; exact notOw_joinL h
theorem joinA_nowR {lv : Nat} {A B : List AS} (hl : A.length = B.length) (i : Nat) (h : notOw (B.getD i .un) = true) : notOw ((joinA lv A B).getD i .un) = true := by
  rw [joinA_get i hl]; exact notOw_joinR h
theorem bnd {α β : Type} {o : Option α} {f : α → Option β} {b : β} (h : o.bind f = some b) : ∃ a, o = some a ∧ f a = some b := by
  cases o with
  | none => cases h
  | some a => exact ⟨a, rfl, h⟩
/-- kept, while others are asked -/
theorem RelA.keepB {lv : Nat} {A A' : List AS} {c c' : C} {p p' : PC} {vs : List Nat} {r : R} {d : D} {R : AR} {nm : Bool} {tg : List Nat} (h : RelA lv A c p vs r d R) (s : StepR lv nm tg A A' c c' p p') (k : keepB vs nm tg = true) : RelA lv A' c' p' vs r d R := by
  unfold Sd.keepB at k
  rw [Bool.or_eq_true] at k
  rcases k with k | k
  · have e : vs = [] := by simpa using k
    subst e
    exact h.keep (fun i hi => by cases hi) (fun i hi => by cases hi) (fun i hi => by cases hi)
  · rw [Bool.and_eq_true] at k
    obtain ⟨k1, k2⟩ := k
    refine h.keep (fun i _ => s.now i) (fun i hi => s.sl k1 i ?_) (fun i _ => by rw [s.e k1])
    have := List.all_eq_true.mp k2 i hi
    simpa using this
theorem RelA.frzStep {lv : Nat} {A A' : List AS} {c c' : C} {p : PC} {nm : Bool} {tg : List Nat} (hl : A'.length = A.length) (hn : ∀ i, notOw (A.getD i .un) = true → notOw (A'.getD i .un) = true) (h : ∀ i, SlotStep lv (c.r.getD i .un) (c'.r.getD i .un)) : StepR lv nm tg A A' c c' p p := ⟨hl, hn, fun _ => rfl, fun _ i _ => h i⟩
theorem RelA.intR {lv : Nat} {A : List AS} {c : C} {p : PC} {vs : List Nat} {r : R} {d : D} {R : AR} (h : RelA lv A c p vs r d R) (k : R.isI = true) : isInt d := by
  cases R <;> first | cases k | skip
  cases r with
  | val f e => exact h.2.2
  | new f e => exact h.2.2.elim
  | bor i => obtain ⟨_, _, _, h⟩ := h; exact h.elim
section
variable (sm : Sm) (cl : Caller) (pcl : PCaller) (sg : Sig)
def GKE (lv : Nat) (e : IE) (A A' : List AS) (R : AR) (c : C) (p : PC) : Sd.R → C → D → PC → Prop := fun r c' d p' => Sim lv A' c' p' ∧ RelA lv A' c' p' (vars e) r d R ∧ StepR lv (noM e) (tgts e) A A' c c' p p' ∧ (isL e = true → isLst d)
def KZ (lv : Nat) (e : IE) (A A' : List AS) (R : AR) (c : C) (p : PC) : Fl × D → C → D → PC → Prop := fun fd c' d p' => fd.2 = d ∧ fd.1.le (R.fo lv) ∧ Sim lv (frzA lv A' R) c' p' ∧ StepR lv (noM e) (tgts e) A (frzA lv A' R) c c' p p' ∧ (isL e = true → isLst d) ∧ (R.isI = true → isInt d)
def KT (lv : Nat) (e : IE) (A A' : List AS) (c : C) (p : PC) : Bool → C → Bool → PC → Prop := fun k c' k' p' => k = k' ∧ Sim lv A' c' p' ∧ StepR lv (noM e) (tgts e) A A' c c' p p'
def GE (e : IE) : Prop := ∀ lv A A' R x c p, lkE sm lv e A = some (A', R, x) → Sim lv A c p → SimO (evE cl sg lv e c) (pE pcl sg e p) x (GKE lv e A A' R c p)
/-- callers alike -/
def ClS : Prop := ∀ f as s, match pcl f as s with
  | .ok d s' => ∃ fl, cl f as s = some (.inl (fl, d, s')) ∧ fl.le (sm f).1 ∧ ((sm f).2.2 = true → isInt d)
  | .exc x d s' => ∃ fl, cl f as s = some (.inr (⟨x, fl, d⟩, s')) ∧ fl.le (sm f).2.1
  | .stuck => True
end
section
variable {sm : Sm} {cl : Caller} {pcl : PCaller} {sg : Sig}
theorem toOS {lv : Nat} {e : IE} {A A' : List AS} {R : AR} {x : Fl} {c : C} {p : PC} (h : SimO (evE cl sg lv e c) (pE pcl sg e p) x (GKE lv e A A' R c p)) : SimO ((evE cl sg lv e c).o lv) (pE pcl sg e p) x (GKE lv e A A' (R.op lv) c p) := by
  have h2 : SimO ((evE cl sg lv e c).o lv) ((pE pcl sg e p).bind fun d p => .ok d p) x (GKE lv e A A' (R.op lv) c p) := by
    refine SimO.bind h .rf (y := x) .rf fun r c d p' ⟨s, r1, t, l⟩ => ?_
    obtain ⟨r', e1, r2⟩ := r1.opd
    rw [e1]
    exact .ok ⟨s, r2, t, l⟩
  cases hp : pE pcl sg e p <;> rw [hp] at h2 <;> exact h2
theorem toZS {lv : Nat} {e : IE} {A A' : List AS} {R : AR} {x : Fl} {c : C} {p : PC} (h : SimO (evE cl sg lv e c) (pE pcl sg e p) x (GKE lv e A A' R c p)) : SimO ((evE cl sg lv e c).z lv) (pE pcl sg e p) x (KZ lv e A A' R c p) := by
  have h2 : SimO ((evE cl sg lv e c).z lv) ((pE pcl sg e p).bind fun d p => .ok d p) x (KZ lv e A A' R c p) := by
    refine SimO.bind h .rf (y := x) .rf fun r c' d p' ⟨s, r1, t, l⟩ => ?_
    obtain ⟨f, c2, e1, hf, s2, st⟩ := r1.frz s
    rw [e1]
    refine .ok ⟨rfl, hf, s2, ?_, l, r1.intR⟩
    exact t.trans (RelA.frzStep (nm := noM e) (tg := tgts e) frzA_len frzA_now st) (fun h => ⟨h, h⟩) (fun i h => ⟨h, h⟩)
  cases hp : pE pcl sg e p <;> rw [hp] at h2 <;> exact h2
theorem toTS {lv : Nat} {e : IE} {A A' : List AS} {R : AR} {x : Fl} {c : C} {p : PC} (h : SimO (evE cl sg lv e c) (pE pcl sg e p) x (GKE lv e A A' R c p)) : SimO ((evE cl sg lv e c).t lv) (pT (pE pcl sg e p)) x (KT lv e A A' c p) := by
  unfold Out.t pT
  refine SimO.bind (toOS h) .rf .rf fun r c' d p' ⟨s, r1, t, l⟩ => ?_
  obtain ⟨f, e1, hf⟩ := r1.look
  simp only [e1]
  exact .opt fun k _ => ⟨rfl, s, t⟩
theorem two {α β : Type} {lv : Nat} {a b : IE} {A A1 A2 : List AS} {R1 R2 : AR} {x1 x2 w z : Fl} {c : C} {p : PC} {F : R → R → C → Out α} {G : D → D → PC → PO β} {L : α → C → β → PC → Prop} (ga : GE sm cl pcl sg a) (gb : GE sm cl pcl sg b)
    (h1 : lkE sm lv a A = some (A1, R1, x1)) (h2 : lkE sm lv b A1 = some (A2, R2, x2)) (hk : keepB (vars a) (noM b) (tgts b) = true) (s : Sim lv A c p) (z1 : x1.le z) (z2 : x2.le z) (zw : w.le z)
    (k : ∀ ra rb c' x y p', Sim lv A2 c' p' → RelA lv A2 c' p' (vars a) ra x (R1.op lv) → RelA lv A2 c' p' (vars b) rb y (R2.op lv) → StepR lv (noM a && noM b) (tgts a ++ tgts b) A A2 c c' p p' → (isL a = true → isLst x) → (isL b = true → isLst y) → SimO (F ra rb c') (G x y p') w L) :
    SimO (((evE cl sg lv a c).o lv).bind fun ra c => ((evE cl sg lv b c).o lv).bind fun rb c => F ra rb c) ((pE pcl sg a p).bind fun x c => (pE pcl sg b c).bind fun y c => G x y c) z L := by
  refine SimO.bind (toOS (ga _ _ _ _ _ _ _ h1 s)) z1 .rf fun ra c1 x p1 ⟨s1, r1, t1, l1⟩ => ?_
  refine SimO.bind (toOS (gb _ _ _ _ _ _ _ h2 s1)) z2 zw fun rb c2 y p2 ⟨s2, r2, t2, l2⟩ => ?_
  exact k ra rb c2 x y p2 s2 (r1.keepB t2 hk) r2 (t1.trans t2 (fun h => by simpa using h) (fun i h => by simpa using h)) l1 l2
/-- results of some -/
def RelAs (lv : Nat) (A : List AS) (c : C) (p : PC) (vs : List Nat) : List R → List D → List AR → Prop
  | [], [], [] => True
  | r :: rs, d :: ds, R :: Rs => RelA lv A c p vs r d (R.op lv) ∧ RelAs lv A c p vs rs ds Rs
  | _, _, _ => False
theorem RelA.more {lv : Nat} {A : List AS} {c : C} {p : PC} {vs ws : List Nat} {r : R} {d : D} {R : AR} (h : RelA lv A c p vs r d R) (k : ∀ i ∈ vs, i ∈ ws) : RelA lv A c p ws r d R := by
  cases r <;> first | exact h | (obtain ⟨h1, h2⟩ := h; exact ⟨k _ h1, h2⟩)
theorem RelAs.map {lv : Nat} {A A' : List AS} {c c' : C} {p p' : PC} {vs ws : List Nat} (k : ∀ r d R, RelA lv A c p vs r d R → RelA lv A' c' p' ws r d R) : ∀ {rs : List R} {ds : List D} {Rs : List AR}, RelAs lv A c p vs rs ds Rs → RelAs lv A' c' p' ws rs ds Rs
  | [], [], [], _ => trivial
  | r :: rs, d :: ds, R :: Rs, h => ⟨k _ _ _ h.1, RelAs.map k h.2⟩
  | [], [], _ :: _, h => h.elim
  | [], _ :: _, _, h => h.elim
  | _ :: _, [], _, h => h.elim
  | _ :: _, _ :: _, [], h => h.elim
theorem RelAs.looks {lv : Nat} {A : List AS} {c : C} {p : PC} {vs : List Nat} : ∀ {rs : List R} {ds : List D} {Rs : List AR}, RelAs lv A c p vs rs ds Rs → ∃ f, Sd.looks c rs = some (f, ds) ∧ f.le (foAs lv Rs)
  | [], [], [], _ => ⟨Fl.top, rfl, .rf⟩
  | r :: rs, d :: ds, R :: Rs, h => by
    obtain ⟨f, e1, h1⟩ := h.1.look
    obtain ⟨g, e2, h2⟩ := RelAs.looks h.2
    rw [AR.fo_op] at h1
    refine ⟨f.join g, ?_, Fl.le.mono h1 h2⟩
    simp only [Sd.looks, e1, e2]
  | [], [], _ :: _, h => h.elim
  | [], _ :: _, _, h => h.elim
  | _ :: _, [], _, h => h.elim
  | _ :: _, _ :: _, [], h => h.elim
theorem loosen_op {lv : Nat} {A : List AS} {R : AR} : loosen lv A (R.op lv) = loosen lv A R := by cases R <;> rfl
theorem loosens_len {lv : Nat} : ∀ {Rs : List AR} {A : List AS}, (loosens lv A Rs).length = A.length
  | [], _ => rfl
  | R :: Rs, A => by show (loosens lv (loosen lv A R) Rs).length = _; rw [loosens_len, loosen_len]
theorem loosens_now {lv : Nat} : ∀ {Rs : List AR} {A : List AS} (i : Nat), notOw (A.getD i .un) = true → notOw ((loosens lv A Rs).getD i .un) = true
  | [], _, _, h => h
  | R :: Rs, A, i, h => loosens_now (Rs := Rs) i (loosen_now i h)
def valR (lv : Nat) : AR → AR := fun R => .val (R.fo lv)
theorem RelA.less {lv : Nat} {A A' : List AS} {c : C} {p : PC} {vs : List Nat} {r : R} {d : D} {R : AR} (h : RelA lv A c p vs r d R) (n : ∀ i, notOw (A.getD i .un) = true → notOw (A'.getD i .un) = true) : RelA lv A' c p vs r d R :=
  h.keep (fun i _ => n i) (fun _ _ => .refl) (fun _ _ => rfl)
/-- all that are owned are so maybe no more -/
theorem Sim.loosens {lv : Nat} {c : C} {p : PC} {vs : List Nat} : ∀ {rs : List R} {ds : List D} {Rs : List AR} {A : List AS}, Sim lv A c p → RelAs lv A c p vs rs ds Rs → Sim lv (loosens lv A Rs) c p ∧ RelAs lv (loosens lv A Rs) c p vs rs ds (Rs.map (valR lv))
  | [], [], [], A, s, h => ⟨s, trivial⟩
  | r :: rs, d :: ds, R :: Rs, A, s, h => by
    obtain ⟨s1, r1⟩ := s.loosen h.1
    rw [loosen_op] at s1 r1
    rw [AR.fo_op] at r1
    have h2 : RelAs lv (Sd.loosen lv A R) c p vs rs ds Rs := h.2.map fun r d R q => q.less fun i => loosen_now i
    obtain ⟨s2, r2⟩ := Sim.loosens s1 h2
    exact ⟨s2, r1.less fun i => loosens_now i, r2⟩
  | [], [], _ :: _, _, _, h => h.elim
  | [], _ :: _, _, _, _, h => h.elim
  | _ :: _, [], _, _, _, h => h.elim
  | _ :: _, _ :: _, [], _, _, h => h.elim
theorem foAs_val {lv : Nat} : ∀ {Rs : List AR}, foAs lv (Rs.map (valR lv)) = foAs lv Rs
  | [] => rfl
  | R :: Rs => by show ((R.fo lv).join _) = _; rw [foAs_val]; rfl
/-- .. and frozen -/
theorem RelAs.frzs {lv : Nat} {A : List AS} {p : PC} {vs : List Nat} : ∀ {rs : List R} {ds : List D} {Rs : List AR} {c : C}, Sim lv A c p → RelAs lv A c p vs rs ds (Rs.map (valR lv)) → ∃ f c', Sd.frzs lv rs c = .ok (f, ds) c' ∧ f.le (foAs lv Rs) ∧ Sim lv A c' p ∧ ∀ i, SlotStep lv (c.r.getD i .un) (c'.r.getD i .un)
  | [], [], [], c, s, _ => ⟨Fl.top, c, rfl, .rf, s, fun _ => .refl⟩
  | r :: rs, d :: ds, R :: Rs, c, s, h => by
    obtain ⟨f, c1, e1, hf, s1, st1⟩ := h.1.frz s
    have s1 : Sim lv A c1 p := s1
    have h2 : RelAs lv A c1 p vs rs ds (Rs.map (valR lv)) := h.2.map fun r d R q => q.keep (fun _ _ h => h) (fun i _ => st1 i) (fun _ _ => rfl)
    obtain ⟨g, c2, e2, hg, s2, st2⟩ := RelAs.frzs s1 h2
    refine ⟨f.join g, c2, ?_, Fl.le.mono hf hg, s2, fun i => (st1 i).trans (st2 i)⟩
    simp only [Sd.frzs, e1, Out.bind, e2]
  | [], [], _ :: _, _, _, h => h.elim
  | [], _ :: _, _, _, _, h => h.elim
  | _ :: _, [], _, _, _, h => h.elim
  | _ :: _, _ :: _, [], _, _, h => h.elim
end
end Sd

/-! Pu3: every expression. -/
namespace Sd
open PySem PySem.Spec PyProof.Rows L2
/-- integers where it is said -/
def KsOk : List Bool → List D → Prop
  | true :: ks, d :: ds => isInt d ∧ KsOk ks ds
  | false :: ks, _ :: ds => KsOk ks ds
  | _, _ => True
def KdOk (k : Kd) (d : D) : Prop := match k with
  | .any => True
  | .allI => isInt d
  | .firstI => ∃ i r, d = .tup (.int i :: r)
section
variable (sm : Sm) (cl : Caller) (pcl : PCaller) (sg : Sig)
def GA (es : List IE) : Prop := ∀ lv A A' Rs x c p, lkA sm lv es A = some (A', Rs, x) → Sim lv A c p → SimO (evA cl sg lv es c) (pA pcl sg es p) x fun rs c' ds p' => Sim lv A' c' p' ∧ RelAs lv A' c' p' (varss es) rs ds Rs ∧ StepR lv (noMs es) (tgtss es) A A' c c' p p'
def GF (es : List IE) : Prop := ∀ lv A A' f ks x c p, lkF sm lv es A = some (A', f, ks, x) → Sim lv A c p → SimO (evF cl sg lv es c) (pA pcl sg es p) x fun fd c' ds p' => fd.2 = ds ∧ fd.1.le f ∧ KsOk ks ds ∧ Sim lv A' c' p' ∧ StepR lv (noMs es) (tgtss es) A A' c c' p p'
def GS (es : List IE) : Prop := ∀ lv A A' f x c p, lkSt sm lv es A = some (A', f, x) → Sim lv A c p → SimO (evS cl sg lv es c) (pSt pcl sg es p) x fun fd c' ds p' => fd.2 = ds ∧ fd.1.le f ∧ Sim lv A' c' p' ∧ StepR lv (noMs es) (tgtss es) A A' c c' p p'
def GP (es : List IE) : Prop := ∀ lv A A' x c p, lkPs sm lv es A = some (A', x) → Sim lv A c p → SimO (evP cl sg lv es c) (pP pcl sg es p) x fun o c' o' p' => o = o' ∧ Sim lv A' c' p' ∧ StepR lv (noMs es) (tgtss es) A A' c c' p p'
def GC (es : List IE) : Prop := ∀ lv A A' x c p, lkCs sm lv es A = some (A', x) → Sim lv A c p → SimO (evCs cl sg lv es c) (pCs pcl sg es p) x fun k c' k' p' => k = k' ∧ Sim lv A' c' p' ∧ StepR lv (noMs es) (tgtss es) A A' c c' p p'
def GI (it : IT) : Prop := ∀ lv A A' f kd x c p, lkIt sm lv it A = some (A', f, kd, x) → Sim lv A c p → SimO (evIt cl sg lv it c) (pIt pcl sg it p) x fun fd c' ds p' => fd.2 = ds ∧ fd.1.le f ∧ (∀ d ∈ ds, KdOk kd d) ∧ Sim lv A' c' p' ∧ StepR lv (noMi it) (tgtsi it) A A' c c' p p'
end
theorem RelA.rv {lv : Nat} {A : List AS} {c : C} {p : PC} {vs : List Nat} {f g : Fl} {d : D} (h : f.le g) : RelA lv A c p vs (Sd.rv f d) d (.val g) := ⟨rfl, nrm_le h⟩
theorem RelA.top {lv : Nat} {A : List AS} {c : C} {p : PC} {vs : List Nat} {d : D} (h : imm d = true) (f : Fl) : RelA lv A c p vs (Sd.rv f d) d (.val Fl.top) := ⟨rfl, by unfold nrm; rw [if_pos h]; exact .rf⟩
theorem bin_new {o : Op2} {x y d : D} (h : bin o x y = some (true, d)) : isLst d := by
  cases o <;> cases x <;> cases y <;> simp only [bin] at h <;> first | cases h | (split at h <;> first | (cases h; exact ⟨_, rfl⟩) | cases h)
theorem bin_lst {o : Op2} {x y d : D} {b : Bool} (h : bin o x y = some (b, d)) (ho : (o = .add ∧ (isLst x ∨ isLst y)) ∨ (o = .mul ∧ isLst x)) : b = true ∧ isLst d := by
  rcases ho with ⟨rfl, ⟨xs, rfl⟩ | ⟨ys, rfl⟩⟩ | ⟨rfl, xs, rfl⟩
  · cases y <;> simp only [bin] at h <;> first | cases h | (split at h <;> first | (cases h; exact ⟨rfl, _, rfl⟩) | cases h)
  · cases x <;> simp only [bin] at h <;> first | cases h | (split at h <;> first | (cases h; exact ⟨rfl, _, rfl⟩) | cases h)
  · cases y <;> simp only [bin] at h <;> first | cases h | (split at h <;> first | (cases h; exact ⟨rfl, _, rfl⟩) | cases h)
theorem bin_scal {o : Op2} {x y d : D} {b : Bool} (h : bin o x y = some (b, d)) (h1 : o ≠ .add) (h2 : o ≠ .mul) : b = false ∧ imm d = true := by
  cases o <;> first | exact absurd rfl h1 | exact absurd rfl h2 | skip
  all_goals (cases x <;> cases y <;> simp only [bin, reduceCtorEq, Option.some.injEq, Prod.mk.injEq] at h)
  all_goals first | (obtain ⟨rfl, rfl⟩ := h; exact ⟨rfl, rfl⟩) | (split at h <;> first | (cases h; done) | (simp only [Option.some.injEq, Prod.mk.injEq] at h; obtain ⟨rfl, rfl⟩ := h; exact ⟨rfl, rfl⟩))
theorem bin_intA {x y d : D} {b : Bool} (h : bin .add x y = some (b, d)) (hx : isInt x ∨ isInt y) : b = false ∧ isInt d := by
  rcases hx with ⟨i, rfl⟩ | ⟨i, rfl⟩
  · cases y <;> simp only [bin, reduceCtorEq] at h
    cases h; exact ⟨rfl, _, rfl⟩
  · cases x <;> simp only [bin, reduceCtorEq] at h
    cases h; exact ⟨rfl, _, rfl⟩
theorem bin_intM {x y d : D} {b : Bool} (h : bin .mul x y = some (b, d)) (hx : isInt x) : b = false ∧ isInt d := by
  obtain ⟨i, rfl⟩ := hx
  cases y <;> simp only [bin, reduceCtorEq] at h
  split at h <;> cases h
  exact ⟨rfl, _, rfl⟩
theorem bin_intO {o : Op2} {x y d : D} {b : Bool} (h : bin o x y = some (b, d)) (h1 : o ≠ .add) (h2 : o ≠ .mul) : b = false ∧ isInt d := by
  cases o <;> first | exact absurd rfl h1 | exact absurd rfl h2 | skip
  all_goals (cases x <;> cases y <;> simp only [bin, reduceCtorEq, Option.some.injEq, Prod.mk.injEq] at h)
  all_goals first | (obtain ⟨rfl, rfl⟩ := h; exact ⟨rfl, _, rfl⟩) | (split at h <;> first | (cases h; done) | (simp only [Option.some.injEq, Prod.mk.injEq] at h; obtain ⟨rfl, rfl⟩ := h; exact ⟨rfl, _, rfl⟩))
theorem isInt.imm {d : D} (h : isInt d) : imm d = true := by obtain ⟨i, rfl⟩ := h; rfl
theorem RelA.nt {lv : Nat} {A : List AS} {c : C} {p : PC} {vs : List Nat} {d : D} (h : isInt d) (f : Fl) : RelA lv A c p vs (Sd.rv f d) d .nt := ⟨rfl, by unfold nrm; rw [if_pos h.imm]; exact .rf, h⟩
theorem RelA.int {lv : Nat} {A : List AS} {c : C} {p : PC} {vs : List Nat} {r : R} {d : D} {R : AR} (h : RelA lv A c p vs r d (R.op lv)) (k : R.isI = true) : isInt d := by
  cases R <;> first | cases k | skip
  cases r with
  | val f e => exact h.2.2
  | new f e => exact h.2.2.elim
  | bor i => obtain ⟨_, _, _, h⟩ := h; exact h.elim
section
variable {sm : Sm} {cl : Caller} {pcl : PCaller} {sg : Sig}
/-- what an operation makes, as a result -/
theorem res_ok {lv : Nat} {A A' : List AS} {c c' : C} {p p' : PC} {e : IE} {f g : Fl} {b : Bool} {d : D} {R : AR} {x : Fl} (s : Sim lv A' c' p') (t : StepR lv (noM e) (tgts e) A A' c c' p p') (hf : f.le g)
    (hb : b = true → isLst d) (hl : isL e = true → isLst d) (hR : (R = .val (g.join (.at lv))) ∨ (b = true ∧ R = .new g) ∨ (b = false ∧ imm d = true ∧ R = .val Fl.top) ∨ (b = false ∧ isInt d ∧ R = .nt)) : SimO (res lv f (some (b, d)) c') (pOk (some (b, d)) p') x (GKE lv e A A' R c p) := by
  cases b with
  | true =>
    refine .ok ⟨s, ?_, t, hl⟩
    rcases hR with rfl | ⟨_, rfl⟩ | ⟨h, _⟩ | ⟨h, _⟩
    · exact ⟨rfl, hb rfl, Fl.le.mono hf .rf⟩
    · exact ⟨rfl, hb rfl, hf⟩
    · cases h
    · cases h
  | false =>
    refine .ok ⟨s, ?_, t, hl⟩
    rcases hR with rfl | ⟨h, _⟩ | ⟨_, hi, rfl⟩ | ⟨_, hi, rfl⟩
    · exact RelA.rv (Fl.le.mono hf .rf)
    · cases h
    · exact RelA.top hi _
    · exact RelA.nt hi _
theorem g_op2 {o : Op2} {a b : IE} (ga : GE sm cl pcl sg a) (gb : GE sm cl pcl sg b) : GE sm cl pcl sg (.op2 o a b) := fun lv A A' R x c p h s => by
  simp only [lkE] at h
  obtain ⟨⟨A1, R1, x1⟩, h1, k1⟩ := bnd h
  obtain ⟨⟨A2, R2, x2⟩, h2, k2⟩ := bnd k1
  clear h k1
  dsimp only at h1 h2 k2
  split at k2 <;> first | cases k2 | skip
  rename_i hk
  simp only [evE, pE]
  have hx : x = x1.join x2 ∧ A' = A2 := by cases o <;> (cases k2; exact ⟨rfl, rfl⟩)
  obtain ⟨rfl, rfl⟩ := hx
  refine two (w := Fl.top) ga gb h1 h2 hk s .jl .jr .top fun ra rb c' x y p' s' ra' rb' t la lb => ?_
  obtain ⟨f, e1, hf⟩ := ra'.look
  obtain ⟨g, e2, hg⟩ := rb'.look
  rw [AR.fo_op] at hf hg
  simp only [e1, e2]
  cases hb : bin o x y with
  | none => trivial
  | some bd =>
    obtain ⟨b', d⟩ := bd
    have t' : StepR lv (noM (.op2 o a b)) (tgts (.op2 o a b)) A A' c c' p p' := t
    refine res_ok s' t' (Fl.le.mono hf hg) (fun hh => by subst hh; exact bin_new hb) (fun hl => ?_) ?_
    · cases o <;> simp only [isL, Bool.or_eq_true, Bool.false_eq_true] at hl
      · exact (bin_lst hb (.inl ⟨rfl, hl.imp la lb⟩)).2
      · exact (bin_lst hb (.inr ⟨rfl, la hl⟩)).2
    · cases o <;> cases k2 <;> first
        | exact .inr (.inr (.inr ⟨(bin_intO hb (by decide) (by decide)).1, (bin_intO hb (by decide) (by decide)).2, rfl⟩))
        | skip
      · by_cases hi : (R1.isI || R2.isI) = true
        · rw [if_pos hi]
          rw [Bool.or_eq_true] at hi
          have q := bin_intA hb (hi.imp ra'.int rb'.int)
          exact .inr (.inr (.inr ⟨q.1, q.2, rfl⟩))
        rw [if_neg hi]
        unfold newF; split
        · rename_i hl
          rw [Bool.or_eq_true] at hl
          exact .inr (.inl ⟨(bin_lst hb (.inl ⟨rfl, hl.imp la lb⟩)).1, rfl⟩)
        · exact .inl rfl
      · by_cases hi : R1.isI = true
        · rw [if_pos hi]
          have q := bin_intM hb (ra'.int hi)
          exact .inr (.inr (.inr ⟨q.1, q.2, rfl⟩))
        rw [if_neg hi]
        unfold newF; split
        · rename_i hl
          exact .inr (.inl ⟨(bin_lst hb (.inr ⟨rfl, la hl⟩)).1, rfl⟩)
        · exact .inl rfl
/-- a flat outcome -/
theorem flat {lv : Nat} {A A' : List AS} {c c' : C} {p p' : PC} {e : IE} {d : D} {x : Fl} (s : Sim lv A' c' p') (t : StepR lv (noM e) (tgts e) A A' c c' p p') (hi : imm d = true) (hl : isL e = false) : SimO (.ok (rv Fl.top d) c') (.ok d p') x (GKE lv e A A' (.val Fl.top) c p) :=
  .ok ⟨s, RelA.top hi _, t, fun h => by rw [hl] at h; cases h⟩
theorem optB {γ δ : Type} {o : Option Bool} {c' : C} {p' : PC} {f : Bool → C → Out γ} {g : Bool → PC → PO δ} {x : Fl} {L : γ → C → δ → PC → Prop} (k : ∀ b, SimO (f b c') (g b p') x L) : SimO ((ofOpt o c').bind f) ((pOpt o p').bind g) x L := by
  cases o with
  | none => trivial
  | some b => exact k b
theorem g_cmp {o : Cm} {a b : IE} (ga : GE sm cl pcl sg a) (gb : GE sm cl pcl sg b) : GE sm cl pcl sg (.cmp o a b) := fun lv A A' R x c p h s => by
  simp only [lkE] at h
  obtain ⟨⟨A1, R1, x1⟩, h1, k1⟩ := bnd h
  obtain ⟨⟨A2, R2, x2⟩, h2, k2⟩ := bnd k1
  clear h k1
  dsimp only at h1 h2 k2
  split at k2 <;> cases k2
  rename_i hk
  simp only [evE, pE]
  refine two (w := Fl.top) ga gb h1 h2 hk s .jl .jr .top fun ra rb c' x y p' s' ra' rb' t la lb => ?_
  obtain ⟨f, e1, hf⟩ := ra'.look
  obtain ⟨g, e2, hg⟩ := rb'.look
  simp only [e1, e2]
  exact optB fun k => flat s' t rfl rfl
theorem g_neg {a : IE} (ga : GE sm cl pcl sg a) : GE sm cl pcl sg (.neg a) := fun lv A A' R x c p h s => by
  simp only [lkE] at h
  obtain ⟨⟨A1, R1, x1⟩, h1, k1⟩ := bnd h
  cases k1
  simp only [evE, pE]
  refine SimO.bind (toOS (ga _ _ _ _ _ _ _ h1 s)) .rf (y := Fl.top) .top fun r c1 d p1 ⟨s1, r1, t1, l1⟩ => ?_
  obtain ⟨f, e1, hf⟩ := r1.look
  have t : StepR lv (noM (.neg a)) (tgts (.neg a)) A A1 c c1 p p1 := t1.imp (fun h => by simpa only [noM] using h) (fun i h => by simpa only [tgts] using h)
  cases d <;> first | trivial | (simp only [e1]; exact .ok ⟨s1, RelA.nt ⟨_, rfl⟩ _, t, fun h => by simp [isL] at h⟩)
theorem g_isN {a : IE} (ga : GE sm cl pcl sg a) : GE sm cl pcl sg (.isN a) := fun lv A A' R x c p h s => by
  simp only [lkE] at h
  obtain ⟨⟨A1, R1, x1⟩, h1, k1⟩ := bnd h
  cases k1
  simp only [evE, pE]
  refine SimO.bind (toOS (ga _ _ _ _ _ _ _ h1 s)) .rf (y := Fl.top) .top fun r c1 d p1 ⟨s1, r1, t1, l1⟩ => ?_
  obtain ⟨f, e1, hf⟩ := r1.look
  have t : StepR lv (noM (.isN a)) (tgts (.isN a)) A A1 c c1 p p1 := t1.imp (fun h => by simpa only [noM] using h) (fun i h => by simpa only [tgts] using h)
  cases d <;> first | trivial | (simp only [e1]; exact flat s1 t rfl (by simp only [isL]))
theorem g_notN {a : IE} (ga : GE sm cl pcl sg a) : GE sm cl pcl sg (.notN a) := fun lv A A' R x c p h s => by
  simp only [lkE] at h
  obtain ⟨⟨A1, R1, x1⟩, h1, k1⟩ := bnd h
  cases k1
  simp only [evE, pE]
  refine SimO.bind (toOS (ga _ _ _ _ _ _ _ h1 s)) .rf (y := Fl.top) .top fun r c1 d p1 ⟨s1, r1, t1, l1⟩ => ?_
  obtain ⟨f, e1, hf⟩ := r1.look
  have t : StepR lv (noM (.notN a)) (tgts (.notN a)) A A1 c c1 p p1 := t1.imp (fun h => by simpa only [noM] using h) (fun i h => by simpa only [tgts] using h)
  cases d <;> first | trivial | (simp only [e1]; exact flat s1 t rfl (by simp only [isL]))
theorem g_isa {a : IE} {ts : List Ty} (ga : GE sm cl pcl sg a) : GE sm cl pcl sg (.isa a ts) := fun lv A A' R x c p h s => by
  simp only [lkE] at h
  obtain ⟨⟨A1, R1, x1⟩, h1, k1⟩ := bnd h
  cases k1
  simp only [evE, pE]
  refine SimO.bind (toOS (ga _ _ _ _ _ _ _ h1 s)) .rf (y := Fl.top) .top fun r c1 d p1 ⟨s1, r1, t1, l1⟩ => ?_
  obtain ⟨f, e1, hf⟩ := r1.look
  have t : StepR lv (noM (.isa a ts)) (tgts (.isa a ts)) A A1 c c1 p p1 := t1.imp (fun h => by simpa only [noM] using h) (fun i h => by simpa only [tgts] using h)
  cases d <;> first | trivial | (simp only [e1]; exact flat s1 t rfl (by simp only [isL]))
theorem g_not {a : IE} (ga : GE sm cl pcl sg a) : GE sm cl pcl sg (.not a) := fun lv A A' R x c p h s => by
  simp only [lkE] at h
  obtain ⟨⟨A1, R1, x1⟩, h1, k1⟩ := bnd h
  cases k1
  simp only [evE, pE]
  refine SimO.bind (toTS (ga _ _ _ _ _ _ _ h1 s)) .rf (y := Fl.top) .top fun k c1 k' p1 ⟨e, s1, t1⟩ => ?_
  subst e
  exact flat s1 (t1.imp (fun h => by simpa only [noM] using h) (fun i h => by simpa only [tgts] using h)) rfl (by simp only [isL])
theorem g_chn {o o' : Cm} {a b d : IE} (ga : GE sm cl pcl sg a) (gb : GE sm cl pcl sg b) (gd : GE sm cl pcl sg d) : GE sm cl pcl sg (.chn o o' a b d) := fun lv A A' R x c p h s => by
  simp only [lkE] at h
  obtain ⟨⟨A1, R1, x1⟩, h1, k1⟩ := bnd h
  obtain ⟨⟨A2, R2, x2⟩, h2, k2⟩ := bnd k1
  obtain ⟨⟨A3, R3, x3⟩, h3, k3⟩ := bnd k2
  clear h k1 k2
  dsimp only at h1 h2 h3 k3
  split at k3 <;> first | cases k3 | skip
  rename_i hk
  obtain ⟨A4, hj, k4⟩ := bnd k3
  cases k4
  obtain ⟨hl, rfl⟩ := joinC_some hj
  rw [Bool.and_eq_true] at hk
  simp only [evE, pE]
  refine two (w := x3) ga gb h1 h2 hk.1 s (Fl.le.jl' .jl) (Fl.le.jl' .jr) .jr fun ra rb c' x y p' s' ra' rb' t la lb => ?_
  obtain ⟨f, e1, hf⟩ := ra'.look
  obtain ⟨g, e2, hg⟩ := rb'.look
  simp only [e1, e2]
  refine optB fun k => ?_
  cases k with
  | false =>
    refine flat (s'.joinL hl) ((t.say (joinA_len hl) (fun i h => joinA_nowL hl i h)).imp (fun h => ?_) (fun i h => ?_)) rfl (by simp only [isL])
    · simp only [noM, Bool.and_eq_true] at h ⊢; exact h.1
    · simp only [tgts, List.mem_append, not_or] at h ⊢; exact h.1
  | true =>
    refine SimO.bind (toOS (gd _ _ _ _ _ _ _ h3 s')) .rf (y := Fl.top) .top fun rd c3 z p3 ⟨s3, r3, t3, l3⟩ => ?_
    obtain ⟨g', e3, _⟩ := (rb'.keepB t3 hk.2).look
    obtain ⟨h', e4, _⟩ := r3.look
    simp only [e3, e4]
    refine optB fun k => flat (s3.joinR hl) (((t.trans t3 (nm := noM (.chn o o' a b d)) (tg := tgts (.chn o o' a b d)) (fun h => ?_) (fun i h => ?_)).say ((joinA_len hl).trans hl) (fun i h => joinA_nowR hl i h))) rfl (by simp only [isL])
    · simp only [noM, Bool.and_eq_true] at h ⊢; exact h
    · simp only [tgts, List.mem_append, not_or] at h ⊢; exact h
theorem toR {lv : Nat} {e : IE} {A A' B : List AS} {R : AR} {x : Fl} {c : C} {p : PC} {vs : List Nat} {r : Sd.R} {d : D} {c' : C} {p' : PC} (s : Sim lv A' c' p') (h : RelA lv A' c' p' vs r d R) (hB : B.length = A'.length) (hL : ∀ lv', lv' = lv → Sim lv (loosen lv A' R) c' p' → Sim lv B c' p') (hn : ∀ i, notOw ((loosen lv A' R).getD i .un) = true → notOw (B.getD i .un) = true) :
    Sim lv B c' p' ∧ RelA lv B c' p' vs r d (.val (R.fo lv)) := by
  obtain ⟨s1, r1⟩ := s.loosen h
  exact ⟨hL lv rfl s1, r1.less hn⟩
theorem g_and {a b : IE} (ga : GE sm cl pcl sg a) (gb : GE sm cl pcl sg b) : GE sm cl pcl sg (.and a b) := fun lv A A' R x c p h s => by
  simp only [lkE] at h
  obtain ⟨⟨A1, R1, x1⟩, h1, k1⟩ := bnd h
  obtain ⟨⟨A2, R2, x2⟩, h2, k2⟩ := bnd k1
  clear h k1
  dsimp only at h1 h2 k2
  obtain ⟨A3, hj, k4⟩ := bnd k2
  cases k4
  obtain ⟨hl, rfl⟩ := joinC_some hj
  simp only [evE, pE]
  refine SimO.bind (toOS (ga _ _ _ _ _ _ _ h1 s)) .jl (y := x2) .jr fun ra c1 x p1 ⟨s1, r1, t1, l1⟩ => ?_
  obtain ⟨f, e1, hf⟩ := r1.look
  rw [e1]
  have t0 : StepR lv (noM (.and a b)) (tgts (.and a b)) A (joinA lv A1 (loosen lv A2 R2)) c c1 p p1 := (t1.say (joinA_len hl) (fun i h => joinA_nowL hl i h)).imp (fun h => by simp only [noM, Bool.and_eq_true] at h; exact h.1) (fun i h => by simp only [tgts, List.mem_append, not_or] at h; exact h.1)
  cases x <;> first | trivial | skip
  rename Bool => k
  cases k with
  | false => exact .ok ⟨s1.joinL hl, ⟨rfl, .top⟩, t0, fun h => by simp [isL] at h⟩
  | true =>
    refine (gb _ _ _ _ _ _ _ h2 s1).imp .rf fun r c2 d p2 ⟨s2, r2, t2, l2⟩ => ?_
    obtain ⟨s3, r3⟩ := s2.loosen r2
    refine ⟨s3.joinR hl, ?_, ?_, fun h => by simp [isL] at h⟩
    · have := r3.less (A' := joinA lv A1 (loosen lv A2 R2)) fun i h => joinA_nowR hl i h
      simpa only [vars] using this
    · exact (t1.trans t2 (nm := noM (.and a b)) (tg := tgts (.and a b)) (fun h => by simpa only [noM, Bool.and_eq_true] using h) (fun i h => by simpa only [tgts, List.mem_append, not_or] using h)).say (((joinA_len hl).trans hl).trans loosen_len) (fun i h => joinA_nowR hl i (loosen_now i h))
theorem g_or {a b : IE} (ga : GE sm cl pcl sg a) (gb : GE sm cl pcl sg b) : GE sm cl pcl sg (.or a b) := fun lv A A' R x c p h s => by
  simp only [lkE] at h
  obtain ⟨⟨A1, R1, x1⟩, h1, k1⟩ := bnd h
  obtain ⟨⟨A2, R2, x2⟩, h2, k2⟩ := bnd k1
  clear h k1
  dsimp only at h1 h2 k2
  obtain ⟨A3, hj, k4⟩ := bnd k2
  cases k4
  obtain ⟨hl, rfl⟩ := joinC_some hj
  simp only [evE, pE]
  refine SimO.bind (toOS (ga _ _ _ _ _ _ _ h1 s)) .jl (y := x2) .jr fun ra c1 x p1 ⟨s1, r1, t1, l1⟩ => ?_
  obtain ⟨f, e1, hf⟩ := r1.look
  rw [e1]
  have t0 : StepR lv (noM (.or a b)) (tgts (.or a b)) A (joinA lv A1 (loosen lv A2 R2)) c c1 p p1 := (t1.say (joinA_len hl) (fun i h => joinA_nowL hl i h)).imp (fun h => by simp only [noM, Bool.and_eq_true] at h; exact h.1) (fun i h => by simp only [tgts, List.mem_append, not_or] at h; exact h.1)
  cases x <;> first | trivial | skip
  rename Bool => k
  cases k with
  | true => exact .ok ⟨s1.joinL hl, ⟨rfl, .top⟩, t0, fun h => by simp [isL] at h⟩
  | false =>
    refine (gb _ _ _ _ _ _ _ h2 s1).imp .rf fun r c2 d p2 ⟨s2, r2, t2, l2⟩ => ?_
    obtain ⟨s3, r3⟩ := s2.loosen r2
    refine ⟨s3.joinR hl, ?_, ?_, fun h => by simp [isL] at h⟩
    · have := r3.less (A' := joinA lv A1 (loosen lv A2 R2)) fun i h => joinA_nowR hl i h
      simpa only [vars] using this
    · exact (t1.trans t2 (nm := noM (.or a b)) (tg := tgts (.or a b)) (fun h => by simpa only [noM, Bool.and_eq_true] using h) (fun i h => by simpa only [tgts, List.mem_append, not_or] using h)).say (((joinA_len hl).trans hl).trans loosen_len) (fun i h => joinA_nowR hl i (loosen_now i h))
theorem joinR_rel {lv : Nat} {A A' : List AS} {c : C} {p : PC} {vs ws : List Nat} {r : Sd.R} {d : D} {R2 R3 : AR} (h : RelA lv A c p vs r d R2) (s : Sim lv A c p) (hn : ∀ i, notOw ((loosen lv A R2).getD i .un) = true → notOw (A'.getD i .un) = true) (hv : ∀ i ∈ vs, i ∈ ws) : RelA lv A' c p ws r d (joinR lv R2 R3) ∧ RelA lv A' c p ws r d (joinR lv R3 R2) := by
  obtain ⟨s1, r1⟩ := s.loosen h
  have v1 : RelA lv A' c p ws r d (.val ((R2.fo lv).join (R3.fo lv))) := by
    have q := (r1.less hn).more hv
    cases r with
    | val f e => exact ⟨q.1, Fl.le.jl' q.2⟩
    | new f e => exact ⟨q.1, q.2.1, Fl.le.jl' q.2.2⟩
    | bor i =>
      obtain ⟨a1, a2, f, q⟩ := q
      exact ⟨a1, a2, f, q.imp (fun z => ⟨z.1, Fl.le.jl' z.2⟩) (fun z => ⟨z.1, Fl.le.jl' z.2.1, z.2.2⟩)⟩
  have v2 : RelA lv A' c p ws r d (.val ((R3.fo lv).join (R2.fo lv))) := by
    rw [show (R3.fo lv).join (R2.fo lv) = (R2.fo lv).join (R3.fo lv) by unfold Fl.join; rw [Nat.min_comm, Nat.max_comm]]
    exact v1
  cases R2 <;> cases R3 <;> first | exact ⟨v1, v2⟩ | skip
  rotate_left
  · have q := (h.less fun i hi => hn i hi).more hv
    exact ⟨q, q⟩
  rename_i f g
  cases r with
  | val f e => exact h.2.elim
  | new f e => exact ⟨⟨h.1, h.2.1, Fl.le.jl' h.2.2⟩, ⟨h.1, h.2.1, Fl.le.jr' h.2.2⟩⟩
  | bor i => obtain ⟨_, _, _, h⟩ := h; exact h.elim
theorem g_ite {t a b : IE} (gt : GE sm cl pcl sg t) (ga : GE sm cl pcl sg a) (gb : GE sm cl pcl sg b) : GE sm cl pcl sg (.ite t a b) := fun lv A A' R x c p h s => by
  simp only [lkE] at h
  obtain ⟨⟨A1, R1, x1⟩, h1, k1⟩ := bnd h
  obtain ⟨⟨A2, R2, x2⟩, h2, k2⟩ := bnd k1
  obtain ⟨⟨A3, R3, x3⟩, h3, k3⟩ := bnd k2
  clear h k1 k2
  dsimp only at h1 h2 h3 k3
  obtain ⟨A4, hj, k4⟩ := bnd k3
  cases k4
  obtain ⟨hl, rfl⟩ := joinC_some hj
  simp only [evE, pE]
  refine SimO.bind (toTS (gt _ _ _ _ _ _ _ h1 s)) (Fl.le.jl' .jl) (y := x2.join x3) (Fl.le.join (Fl.le.jl' .jr) .jr) fun k c1 k' p1 ⟨e, s1, t1⟩ => ?_
  subst e
  cases k with
  | true =>
    simp only [if_true]
    refine (ga _ _ _ _ _ _ _ h2 s1).imp .jl fun r c2 d p2 ⟨s2, r2, t2, l2⟩ => ?_
    refine ⟨(s2.loosen r2).1.joinL hl, (joinR_rel r2 s2 (fun i h => joinA_nowL hl i h) (fun i h => by simp only [vars, List.mem_append]; exact .inl h)).1, ?_, fun h => ?_⟩
    · exact (t1.trans t2 (nm := noM (.ite t a b)) (tg := tgts (.ite t a b)) (fun h => by simp only [noM, Bool.and_eq_true] at h; exact h.1) (fun i h => by simp only [tgts, List.mem_append, not_or] at h; exact h.1)).say ((joinA_len hl).trans loosen_len) (fun i h => joinA_nowL hl i (loosen_now i h))
    · simp only [isL, Bool.and_eq_true] at h; exact l2 h.1
  | false =>
    simp only [Bool.false_eq_true, if_false]
    refine (gb _ _ _ _ _ _ _ h3 s1).imp .jr fun r c2 d p2 ⟨s2, r2, t2, l2⟩ => ?_
    refine ⟨(s2.loosen r2).1.joinR hl, (joinR_rel r2 s2 (fun i h => joinA_nowR hl i h) (fun i h => by simp only [vars, List.mem_append]; exact .inr h)).2, ?_, fun h => ?_⟩
    · exact (t1.trans t2 (nm := noM (.ite t a b)) (tg := tgts (.ite t a b)) (fun h => by simp only [noM, Bool.and_eq_true] at h; exact ⟨h.1.1, h.2⟩) (fun i h => by simp only [tgts, List.mem_append, not_or] at h; exact ⟨h.1.1, h.2⟩)).say (((joinA_len hl).trans hl).trans loosen_len) (fun i h => joinA_nowR hl i (loosen_now i h))
    · simp only [isL, Bool.and_eq_true] at h; exact l2 h.2
end
end Sd

/-! Pu4: lists of expressions, calls, comprehensions. -/
namespace Sd
open PySem PySem.Spec PyProof.Rows L2
section
variable {sm : Sm} {cl : Caller} {pcl : PCaller} {sg : Sig}
theorem ga_nil : GA sm cl pcl sg [] := fun lv A A' Rs x c p h s => by
  simp only [lkA] at h
  cases h
  simp only [evA, pA]
  exact .ok ⟨s, trivial, .refl⟩
theorem ga_cons {e : IE} {es : List IE} (ge : GE sm cl pcl sg e) (gs : GA sm cl pcl sg es) : GA sm cl pcl sg (e :: es) := fun lv A A' Rs x c p h s => by
  simp only [lkA] at h
  obtain ⟨⟨A1, R1, x1⟩, h1, k1⟩ := bnd h
  obtain ⟨⟨A2, R2, x2⟩, h2, k2⟩ := bnd k1
  clear h k1
  dsimp only at h1 h2 k2
  split at k2 <;> cases k2
  rename_i hk
  simp only [evA, pA]
  refine SimO.bind (toOS (ge _ _ _ _ _ _ _ h1 s)) .jl (y := x2) .jr fun r c1 d p1 ⟨s1, r1, t1, _⟩ => ?_
  refine SimO.bind (gs _ _ _ _ _ _ _ h2 s1) .rf (y := x2) .rf fun rs c2 ds p2 ⟨s2, r2, t2⟩ => ?_
  refine .ok ⟨s2, ⟨(r1.keepB t2 hk).more fun i h => by simp only [varss, List.mem_append]; exact .inl h, r2.map fun r d R q => q.more fun i h => by simp only [varss, List.mem_append]; exact .inr h⟩, ?_⟩
  exact t1.trans t2 (fun h => by simpa only [noMs, Bool.and_eq_true] using h) (fun i h => by simpa only [tgtss, List.mem_append, not_or] using h)
theorem gf_nil : GF sm cl pcl sg [] := fun lv A A' f ks x c p h s => by
  simp only [lkF] at h
  cases h
  simp only [evF, pA]
  exact .ok ⟨rfl, .rf, trivial, s, .refl⟩
theorem KsOk.cons {b : Bool} {ks : List Bool} {d : D} {ds : List D} (h : b = true → isInt d) (k : KsOk ks ds) : KsOk (b :: ks) (d :: ds) := by
  cases b with
  | true => exact ⟨h rfl, k⟩
  | false => exact k
theorem gf_cons {e : IE} {es : List IE} (ge : GE sm cl pcl sg e) (gs : GF sm cl pcl sg es) : GF sm cl pcl sg (e :: es) := fun lv A A' f ks x c p h s => by
  simp only [lkF] at h
  obtain ⟨⟨A1, R1, x1⟩, h1, k1⟩ := bnd h
  obtain ⟨⟨A2, f2, ks2, x2⟩, h2, k2⟩ := bnd k1
  cases k2
  simp only [evF, pA]
  refine SimO.bind (toZS (ge _ _ _ _ _ _ _ h1 s)) .jl (y := x2) .jr fun fd c1 d p1 ⟨e1, hf, s1, t1, _, hi⟩ => ?_
  obtain ⟨f, d'⟩ := fd
  cases e1
  refine SimO.bind (gs _ _ _ _ _ _ _ _ h2 s1) .rf (y := x2) .rf fun gd c2 ds p2 ⟨e2, hg, hk, s2, t2⟩ => ?_
  obtain ⟨g, ds'⟩ := gd
  cases e2
  exact .ok ⟨rfl, Fl.le.mono (nrm_le hf) hg, KsOk.cons hi hk, s2, t1.trans t2 (fun h => by simpa only [noMs, Bool.and_eq_true] using h) (fun i h => by simpa only [tgtss, List.mem_append, not_or] using h)⟩
theorem gs_nil : GS sm cl pcl sg [] := fun lv A A' f x c p h s => by
  simp only [lkSt] at h
  cases h
  simp only [evS, pSt]
  exact .ok ⟨rfl, .rf, s, .refl⟩
theorem gs_star {e : IE} {es : List IE} (ge : GE sm cl pcl sg e) (gs : GS sm cl pcl sg es) : GS sm cl pcl sg (.star e :: es) := fun lv A A' f x c p h s => by
  simp only [lkSt] at h
  obtain ⟨⟨A1, R1, x1⟩, h1, k1⟩ := bnd h
  obtain ⟨⟨A2, f2, x2⟩, h2, k2⟩ := bnd k1
  cases k2
  simp only [evS, pSt]
  refine SimO.bind (toOS (ge _ _ _ _ _ _ _ h1 s)) .jl (y := x2) .jr fun r c1 d p1 ⟨s1, r1, t1, _⟩ => ?_
  obtain ⟨f, e1, hf⟩ := r1.look
  rw [AR.fo_op] at hf
  simp only [e1]
  cases hd : seqOf d with
  | none => trivial
  | some xs =>
    refine SimO.bind (gs _ _ _ _ _ _ _ h2 s1) .rf (y := x2) .rf fun gd c2 ds p2 ⟨e2, hg, s2, t2⟩ => ?_
    obtain ⟨g, ds'⟩ := gd
    cases e2
    exact .ok ⟨rfl, Fl.le.mono hf hg, s2, t1.trans t2 (fun h => by simpa only [noMs, noM, Bool.and_eq_true] using h) (fun i h => by simpa only [tgtss, tgts, List.mem_append, not_or] using h)⟩
theorem gs_cons {e : IE} {es : List IE} (hs : ∀ a, e ≠ .star a) (ge : GE sm cl pcl sg e) (gs : GS sm cl pcl sg es) : GS sm cl pcl sg (e :: es) := fun lv A A' f x c p h s => by
  have h' : (lkE sm lv e A).bind (fun (A1, R, x1) => (lkSt sm lv es (frzA lv A1 R)).bind fun (A2, f, x2) => some (A2, (R.fo lv).join f, x1.join x2)) = some (A', f, x) := by
    cases e <;> first | exact absurd rfl (hs _) | (simp only [lkSt] at h; exact h)
  obtain ⟨⟨A1, R1, x1⟩, h1, k1⟩ := bnd h'
  obtain ⟨⟨A2, f2, x2⟩, h2, k2⟩ := bnd k1
  cases k2
  have e0 : evS cl sg lv (e :: es) c = ((evE cl sg lv e c).z lv).bind fun (f, d) c => (evS cl sg lv es c).bind fun (g, ds) c => .ok ((nrm d f).join g, d :: ds) c := by
    cases e <;> first | exact absurd rfl (hs _) | (simp only [evS]; done) | (simp only [evS]; rfl)
  have p0 : pSt pcl sg (e :: es) p = (pE pcl sg e p).bind fun d c => (pSt pcl sg es c).bind fun ds c => .ok (d :: ds) c := by
    cases e <;> first | exact absurd rfl (hs _) | (simp only [pSt]; done) | (simp only [pSt]; rfl)
  rw [e0, p0]
  refine SimO.bind (toZS (ge _ _ _ _ _ _ _ h1 s)) .jl (y := x2) .jr fun fd c1 d p1 ⟨e1, hf, s1, t1, _⟩ => ?_
  obtain ⟨f, d'⟩ := fd
  cases e1
  refine SimO.bind (gs _ _ _ _ _ _ _ h2 s1) .rf (y := x2) .rf fun gd c2 ds p2 ⟨e2, hg, s2, t2⟩ => ?_
  obtain ⟨g, ds'⟩ := gd
  cases e2
  exact .ok ⟨rfl, Fl.le.mono (nrm_le hf) hg, s2, t1.trans t2 (fun h => by simpa only [noMs, Bool.and_eq_true] using h) (fun i h => by simpa only [tgtss, List.mem_append, not_or] using h)⟩
theorem gp_nil : GP sm cl pcl sg [] := fun lv A A' x c p h s => by
  simp only [lkPs] at h
  cases h
  simp only [evP, pP]
  exact .ok ⟨rfl, s, .refl⟩
theorem gp_cons {e : IE} {es : List IE} (ge : GE sm cl pcl sg e) : GP sm cl pcl sg (e :: es) := fun lv A A' x c p h s => by
  simp only [lkPs] at h
  obtain ⟨⟨A1, R1, x1⟩, h1, k1⟩ := bnd h
  cases k1
  simp only [evP, pP]
  refine SimO.bind (toOS (ge _ _ _ _ _ _ _ h1 s)) .rf (y := x1) .rf fun r c1 d p1 ⟨s1, r1, t1, _⟩ => ?_
  obtain ⟨f, e1, hf⟩ := r1.look
  have t : StepR lv (noMs (e :: es)) (tgtss (e :: es)) A A1 c c1 p p1 := t1.imp (fun h => by simp only [noMs, Bool.and_eq_true] at h; exact h.1) (fun i h => by simp only [tgtss, List.mem_append, not_or] at h; exact h.1)
  cases d <;> first | trivial | skip
  simp only [e1]
  exact .ok ⟨rfl, s1, t⟩
theorem gc_nil : GC sm cl pcl sg [] := fun lv A A' x c p h s => by
  simp only [lkCs] at h
  cases h
  simp only [evCs, pCs]
  exact .ok ⟨rfl, s, .refl⟩
theorem gc_cons {e : IE} {es : List IE} (ge : GE sm cl pcl sg e) (gs : GC sm cl pcl sg es) : GC sm cl pcl sg (e :: es) := fun lv A A' x c p h s => by
  simp only [lkCs] at h
  obtain ⟨⟨A1, R1, x1⟩, h1, k1⟩ := bnd h
  obtain ⟨⟨A2, x2⟩, h2, k2⟩ := bnd k1
  clear h k1
  dsimp only at h1 h2 k2
  obtain ⟨A3, hj, k3⟩ := bnd k2
  cases k3
  obtain ⟨hl, rfl⟩ := joinC_some hj
  simp only [evCs, pCs]
  refine SimO.bind (toTS (ge _ _ _ _ _ _ _ h1 s)) .jl (y := x2) .jr fun k c1 k' p1 ⟨e1, s1, t1⟩ => ?_
  subst e1
  cases k with
  | false =>
    refine .ok ⟨rfl, s1.joinL hl, (t1.say (joinA_len hl) (fun i h => joinA_nowL hl i h)).imp (fun h => by simp only [noMs, Bool.and_eq_true] at h; exact h.1) (fun i h => by simp only [tgtss, List.mem_append, not_or] at h; exact h.1)⟩
  | true =>
    refine (gs _ _ _ _ _ _ h2 s1).imp .rf fun k c2 k' p2 ⟨e2, s2, t2⟩ => ⟨e2, s2.joinR hl, ?_⟩
    exact (t1.trans t2 (fun h => by simpa only [noMs, Bool.and_eq_true] using h) (fun i h => by simpa only [tgtss, List.mem_append, not_or] using h)).say ((joinA_len hl).trans hl) (fun i h => joinA_nowR hl i h)
theorem g_lst {xs : List IE} (gs : GS sm cl pcl sg xs) : GE sm cl pcl sg (.lst xs) := fun lv A A' R x c p h s => by
  simp only [lkE] at h
  obtain ⟨⟨A1, f, x1⟩, h1, k1⟩ := bnd h
  cases k1
  simp only [evE, pE]
  refine SimO.bind (gs _ _ _ _ _ _ _ h1 s) .rf (y := x1) .rf fun fd c1 ds p1 ⟨e1, hf, s1, t1⟩ => ?_
  obtain ⟨g, ds'⟩ := fd
  cases e1
  dsimp only
  split
  · exact .ok ⟨s1, ⟨rfl, ⟨_, rfl⟩, hf⟩, t1.imp (fun h => by simpa only [noM] using h) (fun i h => by simpa only [tgts] using h), fun _ => ⟨_, rfl⟩⟩
  · trivial
theorem g_tup {xs : List IE} (gs : GF sm cl pcl sg xs) : GE sm cl pcl sg (.tup xs) := fun lv A A' R x c p h s => by
  simp only [lkE] at h
  obtain ⟨⟨A1, f, ks, x1⟩, h1, k1⟩ := bnd h
  cases k1
  simp only [evE, pE]
  refine SimO.bind (gs _ _ _ _ _ _ _ _ h1 s) .rf (y := x1) .rf fun fd c1 ds p1 ⟨e1, hf, _, s1, t1⟩ => ?_
  obtain ⟨g, ds'⟩ := fd
  cases e1
  dsimp only
  split
  · exact .ok ⟨s1, RelA.rv (Fl.le.mono hf .rf), t1.imp (fun h => by simpa only [noM] using h) (fun i h => by simpa only [tgts] using h), fun h => by simp [isL] at h⟩
  · trivial
theorem g_ix {a i : IE} (ga : GE sm cl pcl sg a) (gi : GE sm cl pcl sg i) : GE sm cl pcl sg (.ix a i) := fun lv A A' R x c p h s => by
  simp only [lkE] at h
  obtain ⟨⟨A1, R1, x1⟩, h1, k1⟩ := bnd h
  obtain ⟨⟨A2, R2, x2⟩, h2, k2⟩ := bnd k1
  clear h k1
  dsimp only at h1 h2 k2
  split at k2 <;> cases k2
  rename_i hk
  simp only [evE, pE]
  refine two (w := Fl.top) ga gi h1 h2 hk s .jl .jr .top fun ra rb c' x y p' s' ra' rb' t la lb => ?_
  obtain ⟨f, e1, hf⟩ := ra'.look
  obtain ⟨g, e2, hg⟩ := rb'.look
  rw [AR.fo_op] at hf
  simp only [e1, e2]
  cases hd : ixD x y with
  | none => trivial
  | some d =>
    refine .ok ⟨s', RelA.rv hf, t, fun h => by simp [isL] at h⟩
theorem g_slc {a : IE} {lo hi : List IE} (ga : GE sm cl pcl sg a) (gl : GP sm cl pcl sg lo) (gh : GP sm cl pcl sg hi) : GE sm cl pcl sg (.slc a lo hi) := fun lv A A' R x c p h s => by
  simp only [lkE] at h
  obtain ⟨⟨A1, R1, x1⟩, h1, k1⟩ := bnd h
  obtain ⟨⟨A2, x2⟩, h2, k2⟩ := bnd k1
  obtain ⟨⟨A3, x3⟩, h3, k3⟩ := bnd k2
  clear h k1 k2
  dsimp only at h1 h2 h3 k3
  split at k3 <;> cases k3
  rename_i hk
  simp only [evE, pE]
  refine SimO.bind (toOS (ga _ _ _ _ _ _ _ h1 s)) (Fl.le.jl' .jl) (y := x2.join x3) (Fl.le.join (Fl.le.jl' .jr) .jr) fun ra c1 d p1 ⟨s1, r1, t1, l1⟩ => ?_
  refine SimO.bind (gl _ _ _ _ _ _ h2 s1) .jl (y := x3) .jr fun l c2 l' p2 ⟨e2, s2, t2⟩ => ?_
  subst e2
  refine SimO.bind (gh _ _ _ _ _ _ h3 s2) .rf (y := x3) .rf fun hh c3 hh' p3 ⟨e3, s3, t3⟩ => ?_
  subst e3
  have t23 : StepR lv (noMs lo && noMs hi) (tgtss lo ++ tgtss hi) A1 A' c1 c3 p1 p3 := t2.trans t3 (fun h => by simpa using h) (fun i h => by simpa using h)
  obtain ⟨f, e1, hf⟩ := (r1.keepB t23 hk).look
  rw [AR.fo_op] at hf
  have t : StepR lv (noM (.slc a lo hi)) (tgts (.slc a lo hi)) A A' c c3 p p3 := t1.trans t23 (fun h => by simp only [noM, Bool.and_eq_true] at h ⊢; exact ⟨h.1.1, h.1.2, h.2⟩) (fun i h => by simp only [tgts, List.mem_append, not_or] at h ⊢; exact ⟨h.1.1, h.1.2, h.2⟩)
  cases d <;> first | trivial | skip
  · simp only [e1]
    refine .ok ⟨s3, ?_, t, fun _ => ⟨_, rfl⟩⟩
    unfold newF; split
    · exact ⟨rfl, ⟨_, rfl⟩, hf⟩
    · exact ⟨rfl, ⟨_, rfl⟩, Fl.le.mono hf .rf⟩
  · simp only [e1]
    have hl : isL a = false := by
      cases e : isL a with
      | false => rfl
      | true => obtain ⟨_, z⟩ := l1 e; cases z
    refine .ok ⟨s3, ?_, t, fun h => by simp [isL, hl] at h⟩
    unfold newF; rw [hl]
    exact RelA.rv (Fl.le.mono hf .rf)
theorem g_rev {a : IE} (ga : GE sm cl pcl sg a) : GE sm cl pcl sg (.rev a) := fun lv A A' R x c p h s => by
  simp only [lkE] at h
  obtain ⟨⟨A1, R1, x1⟩, h1, k1⟩ := bnd h
  cases k1
  simp only [evE, pE]
  refine SimO.bind (toOS (ga _ _ _ _ _ _ _ h1 s)) .rf (y := x1) .rf fun ra c1 d p1 ⟨s1, r1, t1, l1⟩ => ?_
  obtain ⟨f, e1, hf⟩ := r1.look
  rw [AR.fo_op] at hf
  cases d <;> first | trivial | skip
  simp only [e1]
  exact .ok ⟨s1, ⟨rfl, ⟨_, rfl⟩, hf⟩, t1.imp (fun h => by simpa only [noM] using h) (fun i h => by simpa only [tgts] using h), fun _ => ⟨_, rfl⟩⟩
theorem g_lrng {as : List IE} (gs : GF sm cl pcl sg as) : GE sm cl pcl sg (.lrng as) := fun lv A A' R x c p h s => by
  simp only [lkE] at h
  obtain ⟨⟨A1, f, ks, x1⟩, h1, k1⟩ := bnd h
  cases k1
  simp only [evE, pE]
  refine SimO.bind (gs _ _ _ _ _ _ _ _ h1 s) .rf (y := x1) .rf fun fd c1 ds p1 ⟨e1, hf, _, s1, t1⟩ => ?_
  obtain ⟨g, ds'⟩ := fd
  cases e1
  dsimp only
  cases lrngD ds' with
  | none => trivial
  | some xs => exact .ok ⟨s1, ⟨rfl, ⟨_, rfl⟩, .rf⟩, t1.imp (fun h => by simpa only [noM] using h) (fun i h => by simpa only [tgts] using h), fun _ => ⟨_, rfl⟩⟩
theorem opt_map {α β : Type} {o : Option α} {f : α → β} {b : β} (h : o.map f = some b) : ∃ a, o = some a ∧ f a = b := by
  cases o with
  | none => cases h
  | some a => exact ⟨a, rfl, Option.some.inj h⟩
theorem bltD_kind {b : Bt} {ds : List D} {k : Bool} {d : D} (h : bltD b ds = some (k, d)) : (k = true ∧ isLst d ∧ (b = .list ∨ b = .sorted)) ∨ (k = false ∧ b ≠ .list ∧ b ≠ .sorted ∧ (scalB b = true → imm d = true)) := by
  unfold bltD at h
  split at h
  all_goals first
    | (cases h; done)
    | (cases h; exact .inl ⟨rfl, ⟨_, rfl⟩, by simp⟩)
    | (cases h; exact .inr ⟨rfl, by simp, by simp, fun _ => rfl⟩)
    | (cases h; exact .inr ⟨rfl, by simp, by simp, fun z => by simp [scalB] at z⟩)
    | (obtain ⟨ns, _, e⟩ := opt_map h; cases e; first | exact .inl ⟨rfl, ⟨_, rfl⟩, by simp⟩ | exact .inr ⟨rfl, by simp, by simp, fun _ => rfl⟩)
    | (split at h <;> first | (cases h; done) | (cases h; exact .inr ⟨rfl, by simp, by simp, fun _ => rfl⟩))
theorem bltD_int {b : Bt} {ds : List D} {k : Bool} {d : D} (h : bltD b ds = some (k, d)) (hb : intB b = true) : k = false ∧ isInt d := by
  unfold bltD at h
  split at h
  all_goals first
    | (cases h; done)
    | (cases hb; done)
    | (cases h; exact ⟨rfl, _, rfl⟩)
    | (obtain ⟨ns, _, e⟩ := opt_map h; cases e; exact ⟨rfl, _, rfl⟩)
theorem isL_blt {b : Bt} {as : List IE} (h : isL (.blt b as) = true) : b = .list ∨ b = .sorted := by
  cases b <;> simp [isL] at h ⊢
theorem g_blt {b : Bt} {as : List IE} (gs : GA sm cl pcl sg as) : GE sm cl pcl sg (.blt b as) := fun lv A A' R x c p h s => by
  simp only [lkE] at h
  obtain ⟨⟨A1, Rs, x1⟩, h1, k1⟩ := bnd h
  cases k1
  simp only [evE, pE]
  refine SimO.bind (gs _ _ _ _ _ _ _ h1 s) .rf (y := x1) .rf fun rs c1 ds p1 ⟨s1, r1, t1⟩ => ?_
  obtain ⟨f, e1, hf⟩ := r1.looks
  simp only [e1]
  cases hb : bltD b ds with
  | none => trivial
  | some kd =>
    obtain ⟨k, d⟩ := kd
    refine res_ok (e := .blt b as) s1 (t1.imp (fun h => by simpa only [noM] using h) (fun i h => by simpa only [tgts] using h)) hf (fun hk => ?_) (fun hl => ?_) ?_
    · rcases bltD_kind hb with ⟨_, h2, _⟩ | ⟨h2, _⟩
      · exact h2
      · rw [hk] at h2; cases h2
    · rcases bltD_kind hb with ⟨_, h2, _⟩ | ⟨_, h2, h3, _⟩
      · exact h2
      · rcases isL_blt hl with z | z
        · exact absurd z h2
        · exact absurd z h3
    · by_cases hint : intB b = true
      · rw [if_pos hint]
        have q := bltD_int hb hint
        exact .inr (.inr (.inr ⟨q.1, q.2, rfl⟩))
      rw [if_neg hint]
      rcases bltD_kind hb with ⟨h1, h2, h3⟩ | ⟨h1, h2, h3, h4⟩
      · have e : scalB b = false := by rcases h3 with rfl | rfl <;> rfl
        have e2 : isL (.blt b as) = true := by rcases h3 with rfl | rfl <;> simp only [isL]
        rw [e, e2]
        exact .inr (.inl ⟨h1, rfl⟩)
      · cases hs : scalB b with
        | true => exact .inr (.inr (.inl ⟨h1, h4 hs, rfl⟩))
        | false =>
          have e2 : isL (.blt b as) = false := by
            cases e : isL (.blt b as) with
            | false => rfl
            | true => rcases isL_blt e with z | z
                      · exact absurd z h2
                      · exact absurd z h3
          rw [e2]
          exact .inl rfl
theorem g_call {f : Str} {as kas : List IE} {ks : List Str} (hc : ClS sm cl pcl) (gs : GA sm cl pcl sg as) (gk : GA sm cl pcl sg kas) : GE sm cl pcl sg (.call f as ks kas) := fun lv A A' R x c p h s => by
  simp only [lkE] at h
  obtain ⟨⟨A1, Rs, x1⟩, h1, k1⟩ := bnd h
  obtain ⟨⟨A2, Ks, x2⟩, h2, k2⟩ := bnd k1
  clear h k1
  dsimp only at h1 h2 k2
  by_cases hk : keepB (varss as) (noMs kas) (tgtss kas) = true
  case neg => rw [if_neg hk] at k2; cases k2
  rw [if_pos hk] at k2
  simp only [Option.some.injEq, Prod.mk.injEq] at k2
  obtain ⟨e1, e2, e3⟩ := k2
  simp only [evE, pE]
  have hx1 : x1.le x := by rw [← e3]; exact .jl' .jl
  have hx2 : x2.le x := by rw [← e3]; exact .jl' .jr
  refine SimO.bind (gs _ _ _ _ _ _ _ h1 s) hx1 (y := x) .rf fun ra c1 ds p1 ⟨s1, r1, t1⟩ => ?_
  refine SimO.bind (gk _ _ _ _ _ _ _ h2 s1) hx2 (y := x) .rf fun rk c2 dk p2 ⟨s2, r2, t2⟩ => ?_
  have r1' : RelAs lv A2 c2 p2 (varss as) ra ds Rs := r1.map fun r d R q => q.keepB t2 hk
  obtain ⟨f1, l1, hf1⟩ := r1'.looks
  obtain ⟨f2, l2, hf2⟩ := r2.looks
  simp only [l1, l2]
  cases hb : byName (sg f) ds ks dk with
  | none => trivial
  | some args =>
    have t12 : StepR lv (noM (.call f as ks kas)) (tgts (.call f as ks kas)) A A2 c c2 p p2 := t1.trans t2 (fun h => by simpa only [noM, Bool.and_eq_true] using h) (fun i h => by simpa only [tgts, List.mem_append, not_or] using h)
    have cs : c2.s = p2.s := s2.s
    simp only [cs]
    have q := hc f args p2.s
    -- what comes back, and what is behind it
    have back : ∀ (fl : Fl) (d : D) (K : Fl → C → Out Sd.R) (g : Fl), fl.le g → ∃ fo c', backF lv fl d ra rk c2 K = K fo c' ∧ (fo.le (retF lv g ((foAs lv Rs).join (foAs lv Ks)))) ∧ (Sim lv (if decide (1 ≤ g.lo) then A2 else loosens lv (loosens lv A2 Rs) Ks) c' p2) ∧ StepR lv (noM (.call f as ks kas)) (tgts (.call f as ks kas)) A (if decide (1 ≤ g.lo) then A2 else loosens lv (loosens lv A2 Rs) Ks) c c' p p2 := fun fl d K g hg => by
      have hlen : (loosens lv (loosens lv A2 Rs) Ks).length = A2.length := by rw [loosens_len, loosens_len]
      have hnow : ∀ i, notOw (A2.getD i .un) = true → notOw ((loosens lv (loosens lv A2 Rs) Ks).getD i .un) = true := fun i h => loosens_now i (loosens_now i h)
      obtain ⟨sa, ra'⟩ := s2.loosens r1'
      obtain ⟨sb, rb'⟩ := sa.loosens (r2.map fun r d R q => q.less fun i => loosens_now i)
      have ra2 : RelAs lv (loosens lv (loosens lv A2 Rs) Ks) c2 p2 (varss as) ra ds (Rs.map (valR lv)) := ra'.map fun r d R q => q.less fun i => loosens_now i
      have tB : StepR lv (noM (.call f as ks kas)) (tgts (.call f as ks kas)) A (loosens lv (loosens lv A2 Rs) Ks) c c2 p p2 := t12.say hlen hnow
      unfold backF retF
      by_cases hlo : 1 ≤ g.lo
      · have hfl : (imm d || decide (1 ≤ fl.lo)) = true := by
          have : 1 ≤ fl.lo := by have := hg.1; unfold big at this; omega
          simp [this]
        rw [if_pos hfl]
        simp only [hlo, decide_true, if_true]
        exact ⟨_, c2, rfl, .rf, s2, t12⟩
      · simp only [hlo, decide_false, Bool.false_eq_true, if_false]
        by_cases hi : (imm d || decide (1 ≤ fl.lo)) = true
        · rw [if_pos hi]
          exact ⟨_, c2, rfl, .jr, sb, tB⟩
        · rw [if_neg hi]
          obtain ⟨g1, c3, e4, hg1, s3, st3⟩ := RelAs.frzs sb ra2
          have rb2 : RelAs lv (loosens lv (loosens lv A2 Rs) Ks) c3 p2 (varss kas) rk dk (Ks.map (valR lv)) := rb'.map fun r d R q => q.keep (fun _ _ h => h) (fun i _ => st3 i) (fun _ _ => rfl)
          obtain ⟨g2, c4, e5, hg2, s4, st4⟩ := RelAs.frzs s3 rb2
          rw [e4]
          show ∃ fo c', ((frzs lv rk c3).bind _) = _ ∧ _
          rw [e5]
          refine ⟨_, c4, rfl, Fl.le.mono (Fl.le.mono hg1 hg2) .rf, s4, ?_⟩
          exact tB.trans (RelA.frzStep (nm := noM (.call f as ks kas)) (tg := tgts (.call f as ks kas)) rfl (fun _ h => h) fun i => (st3 i).trans (st4 i)) (fun h => ⟨h, h⟩) (fun i h => ⟨h, h⟩)
    cases hp : pcl f args p2.s with
    | stuck => trivial
    | ok d s' =>
      rw [hp] at q
      obtain ⟨fl, e4, hfl, hint⟩ := q
      rw [e4]
      obtain ⟨fo, c', e5, hfo, s5, t5⟩ := back fl d (fun f c => .ok (rv f d) { c with s := s' }) _ hfl
      dsimp only
      rw [e5]
      refine .ok ⟨?_, ?_, ?_, fun h => by simp [isL] at h⟩
      · rw [← e1]; exact ⟨s5.la, s5.lp, s5.at_, rfl⟩
      · rw [← e2]
        by_cases hi : (sm f).2.2 = true
        · rw [if_pos hi]; exact RelA.nt (hint hi) _
        · rw [if_neg hi]; exact RelA.rv hfo
      · rw [← e1]; exact ⟨t5.len, t5.now, t5.e, t5.sl⟩
    | exc cls d s' =>
      rw [hp] at q
      obtain ⟨fl, e4, hfl⟩ := q
      rw [e4]
      obtain ⟨fo, c', e5, hfo, s5, t5⟩ := back fl d (fun f c => .exc { (⟨cls, fl, d⟩ : Exn) with fl := f } { c with s := s' }) _ hfl
      dsimp only
      rw [e5]
      refine ⟨fo, _, rfl, ?_, rfl⟩
      rw [← e3]
      exact Fl.le.jr' hfo
end
end Sd

/-! Pu5: methods, comprehensions, what is walked; all expressions. -/
namespace Sd
open PySem PySem.Spec PyProof.Rows L2
theorem ow_get {lv : Nat} {A : List AS} {c : C} {p : PC} {i : Nat} {F : Fl} (s : Sim lv A c p) (h : A.getD i .un = .ow F) : ∃ f xs, c.r[i]? = some (.ow f (.lst xs)) ∧ p.e[i]? = some (some (.lst xs)) ∧ f.le F := by
  have q := s.at_ i
  rw [h] at q
  cases hs : c.r.getD i .un with
  | un => rw [hs] at q; exact q.elim
  | sh f d => rw [hs] at q; exact q.elim
  | ow f d =>
    rw [hs] at q
    obtain ⟨q1, q2, xs, rfl⟩ := q
    refine ⟨f, xs, ?_, ?_, q1⟩
    · cases hh : c.r[i]? with
      | none => rw [List.getD_eq_getElem?_getD, hh] at hs; cases hs
      | some t => rw [gD hh] at hs; rw [hs]
    · cases hh : p.e[i]? with
      | none => rw [List.getD_eq_getElem?_getD, hh] at q2; cases q2
      | some t => rw [gD hh] at q2; rw [q2]
theorem Sim.wipe {lv : Nat} {A : List AS} {c : C} {p : PC} (s : Sim lv A c p) : ∀ ts : List Nat, Sim lv (wipeA A ts) { c with r := wipeR c.r ts } { p with e := wipeP p.e ts }
  | [] => s
  | t :: ts => (s.wipe ts).set (i := t) (a := .un) (s := .un) (o := none) trivial
theorem wipeA_len : ∀ {ts : List Nat} {A : List AS}, (wipeA A ts).length = A.length
  | [], _ => rfl
  | t :: ts, A => by simp only [wipeA, List.length_set, wipeA_len]
theorem wipeA_now : ∀ {ts : List Nat} {A : List AS} (i : Nat), notOw (A.getD i .un) = true → notOw ((wipeA A ts).getD i .un) = true
  | [], _, _, h => h
  | t :: ts, A, i, h => by simp only [wipeA]; exact notOw_set (wipeA_now i h) rfl
theorem Sim.wipeA {lv : Nat} {A : List AS} {c : C} {p : PC} (s : Sim lv A c p) : ∀ ts : List Nat, Sim lv (Sd.wipeA A ts) { c with r := wipeR c.r ts } p
  | [] => s
  | t :: ts => by
    have q := (s.wipeA ts).setS (i := t) (a := .un) (s := .un) trivial
    exact q
theorem Sim.setTs {lv : Nat} {f F : Fl} (hf : f.le F) : ∀ {ts : List Nat} {ds : List D} {ks : List Bool} {A : List AS} {c : C} {p : PC} {e' : List (Option D)}, KsOk ks ds → Sim lv A c p → setPs ts ds p.e = some e' → ∃ r', Sd.setTs f ts ds c.r = some r' ∧ Sim lv (setAs F ks ts A) { c with r := r' } { p with e := e' }
  | [], [], ks, A, c, p, e', _, s, h => by
    simp only [setPs, Option.some.injEq] at h
    subst h
    refine ⟨c.r, rfl, ?_⟩
    cases ks <;> exact s
  | t :: ts, d :: ds, [], A, c, p, e', hk, s, h => by
    simp only [setPs] at h
    have s1 := s.set (i := t) (a := .sh F) (s := .sh (nrm d f) d) (o := some d) ⟨nrm_le hf, rfl⟩
    have q := Sim.setTs (ks := []) hf (by cases ds <;> trivial) s1 h
    exact q
  | t :: ts, d :: ds, false :: ks, A, c, p, e', hk, s, h => by
    simp only [setPs] at h
    have s1 := s.set (i := t) (a := .sh F) (s := .sh (nrm d f) d) (o := some d) ⟨nrm_le hf, rfl⟩
    have q := Sim.setTs (ks := ks) (ds := ds) hf (show KsOk ks ds from hk) s1 h
    exact q
  | t :: ts, d :: ds, true :: ks, A, c, p, e', hk, s, h => by
    simp only [setPs] at h
    have s1 := s.set (i := t) (a := .nt) (s := .sh (nrm d f) d) (o := some d) ⟨by unfold nrm; rw [if_pos hk.1.imm]; exact .rf, rfl, hk.1⟩
    have q := Sim.setTs hf hk.2 s1 h
    exact q
  | [], _ :: _, _, _, _, _, _, _, _, h => by cases h
  | _ :: _, [], _, _, _, _, _, _, _, h => by cases h
theorem KdOk.ks {k : Kd} {one : Bool} {d : D} (h : KdOk k d) : (one = true → KsOk (k.ks one) [d]) ∧ (one = false → ∀ xs, (d = .tup xs ∨ d = .lst xs) → KsOk (k.ks one) xs) := by
  cases k with
  | any => exact ⟨fun _ => (by cases one <;> trivial), fun _ xs _ => (by cases one <;> cases xs <;> trivial)⟩
  | allI =>
    cases one with
    | true => exact ⟨fun _ => ⟨h, trivial⟩, fun z => (by cases z)⟩
    | false => exact ⟨fun z => (by cases z), fun _ xs _ => (by cases xs <;> trivial)⟩
  | firstI =>
    cases one with
    | true => exact ⟨fun _ => trivial, fun z => (by cases z)⟩
    | false =>
      refine ⟨fun z => (by cases z), fun _ xs hx => ?_⟩
      obtain ⟨i, r, rfl⟩ := h
      rcases hx with hx | hx <;> cases hx
      refine ⟨⟨i, rfl⟩, ?_⟩
      cases r <;> trivial
theorem Sim.setTg {lv : Nat} {f F : Fl} (hf : f.le F) {ts : List Nat} {one : Bool} {d : D} {k : Kd} (hk : KdOk k d) {A : List AS} {c : C} {p : PC} {e' : List (Option D)} (s : Sim lv A c p) (h : setPg ts one d p.e = some e') : ∃ r', Sd.setTg f ts one d c.r = some r' ∧ Sim lv (setAs F (k.ks one) ts A) { c with r := r' } { p with e := e' } := by
  have hk' := hk.ks (one := one)
  unfold setPg at h
  unfold Sd.setTg
  split at h
  · rename_i ho
    rw [if_pos ho]
    exact Sim.setTs hf (hk'.1 ho) s h
  · rename_i ho
    rw [if_neg ho]
    have ho : one = false := by simpa using ho
    cases d <;> first | cases h | exact Sim.setTs hf (hk'.2 ho _ (.inl rfl)) s h | exact Sim.setTs hf (hk'.2 ho _ (.inr rfl)) s h
theorem Sim.back {lv : Nat} {A0 : List AS} {c0 : C} {p0 : PC} (s0 : Sim lv A0 c0 p0) : ∀ {ts : List Nat} {A : List AS} {c : C} {p : PC}, Sim lv A c p → Sim lv (backA A0 A ts) { c with r := backR c0.r c.r ts } { p with e := backP p0.e p.e ts }
  | [], A, c, p, s => s
  | t :: ts, A, c, p, s => by
    have q := Sim.back (ts := ts) s0 s
    have k := s0.at_ t
    simp only [backA, backR, backP]
    have get : c0.r[t]? = some (c0.r.getD t .un) ∨ c0.r[t]? = none := by
      cases hh : c0.r[t]? with
      | none => exact .inr rfl
      | some u => exact .inl (by rw [gD hh])
    cases ha : A0.getD t .un with
    | sh F =>
      rw [ha] at k
      cases hs : c0.r.getD t .un with
      | sh f d =>
        rw [hs] at k
        have e : c0.r[t]? = some (.sh f d) := by
          rcases get with g | g
          · rw [g, hs]
          · rw [List.getD_eq_getElem?_getD, g] at hs; cases hs
        simp only [e]
        exact q.set (i := t) k
      | un => rw [hs] at k; exact k.elim
      | ow f d => rw [hs] at k; exact k.elim
    | _ =>
      cases hh : c0.r[t]? with
      | none => exact q.set (i := t) (a := .un) (s := .un) (o := p0.e.getD t none) trivial
      | some u => cases u <;> first | exact q.set (i := t) (a := .un) (s := .un) (o := p0.e.getD t none) trivial | exact q.set (i := t) (a := .un) (s := .sh _ _) (o := p0.e.getD t none) trivial
theorem backA_len {A0 : List AS} : ∀ {ts : List Nat} {A : List AS}, (backA A0 A ts).length = A.length
  | [], _ => rfl
  | t :: ts, A => by simp only [backA, List.length_set, backA_len]
theorem backA_now {A0 : List AS} : ∀ {ts : List Nat} {A : List AS} (i : Nat), notOw (A.getD i .un) = true → notOw ((backA A0 A ts).getD i .un) = true
  | [], _, _, h => h
  | t :: ts, A, i, h => by
    simp only [backA]
    refine notOw_set (backA_now i h) ?_
    split <;> rfl
theorem fixA_spec {β : Type} {lv : Nat} {step : List AS → Option (List AS × β)} : ∀ {n : Nat} {A B : List AS} {x : β}, fixA lv step n A = some (B, x) →
    (∃ B', step B = some (B', x) ∧ leA lv B' B = true) ∧ (∀ c p, Sim lv A c p → Sim lv B c p) ∧ B.length = A.length ∧ ∀ i, notOw (A.getD i .un) = true → notOw (B.getD i .un) = true
  | 0, _, _, _, h => by cases h
  | n + 1, A, B, x, h => by
    simp only [fixA] at h
    split at h
    · rename_i A' y e
      split at h
      · rename_i hl
        cases h
        exact ⟨⟨A', e, hl⟩, fun _ _ s => s, rfl, fun _ h => h⟩
      · obtain ⟨X, hX, h⟩ := bnd h
        obtain ⟨hl, rfl⟩ := joinC_some hX
        obtain ⟨h1, h2, h3, h4⟩ := fixA_spec h
        exact ⟨h1, fun c p s => h2 c p (s.joinL hl), h3.trans (joinA_len hl), fun i h => h4 i (joinA_nowL hl i h)⟩
    · cases h
/-- a turn: what is not one of own stays, in the plain state; what is not one of tg steps -/
def StepL (lv : Nat) (nm : Bool) (own tg : List Nat) (c c' : C) (p p' : PC) : Prop := nm = true → p'.e.length = p.e.length ∧ (∀ i, i ∉ own → p'.e.getD i none = p.e.getD i none) ∧ ∀ i, i ∉ tg → SlotStep lv (c.r.getD i .un) (c'.r.getD i .un)
theorem StepL.trans {lv : Nat} {nm : Bool} {own tg : List Nat} {c c' c'' : C} {p p' p'' : PC} (a : StepL lv nm own tg c c' p p') (b : StepL lv nm own tg c' c'' p' p'') : StepL lv nm own tg c c'' p p'' := fun h =>
  ⟨(b h).1.trans (a h).1, fun i hi => ((b h).2.1 i hi).trans ((a h).2.1 i hi), fun i hi => ((a h).2.2 i hi).trans ((b h).2.2 i hi)⟩
theorem StepL.refl {lv : Nat} {nm : Bool} {own tg : List Nat} {c : C} {p : PC} : StepL lv nm own tg c c p p := fun _ => ⟨rfl, fun _ _ => rfl, fun _ _ => .refl⟩
theorem wipe_ne {α : Type} {d : α} {l : List α} {x : α} {t i : Nat} (h : t ≠ i) : (l.set t x).getD i d = l.getD i d := by rw [gD_set, if_neg h]
theorem wipeP_get : ∀ {ts : List Nat} {e : List (Option D)} {i : Nat}, i ∉ ts → (wipeP e ts).getD i none = e.getD i none
  | [], _, _, _ => rfl
  | t :: ts, e, i, h => by
    simp only [List.mem_cons, not_or] at h
    simp only [wipeP]
    rw [wipe_ne (Ne.symm h.1), wipeP_get h.2]
theorem wipeP_len : ∀ {ts : List Nat} {e : List (Option D)}, (wipeP e ts).length = e.length
  | [], _ => rfl
  | t :: ts, e => by simp only [wipeP, List.length_set, wipeP_len]
theorem wipeR_get : ∀ {ts : List Nat} {r : List Slot} {i : Nat}, i ∉ ts → (wipeR r ts).getD i .un = r.getD i .un
  | [], _, _, _ => rfl
  | t :: ts, e, i, h => by
    simp only [List.mem_cons, not_or] at h
    simp only [wipeR]
    rw [wipe_ne (Ne.symm h.1), wipeR_get h.2]
theorem setPs_get : ∀ {ts : List Nat} {ds : List D} {e e' : List (Option D)}, setPs ts ds e = some e' → e'.length = e.length ∧ ∀ i, i ∉ ts → e'.getD i none = e.getD i none
  | [], [], e, e', h => by simp only [setPs, Option.some.injEq] at h; subst h; exact ⟨rfl, fun _ _ => rfl⟩
  | t :: ts, d :: ds, e, e', h => by
    simp only [setPs] at h
    obtain ⟨h1, h2⟩ := setPs_get h
    refine ⟨by simpa using h1, fun i hi => ?_⟩
    simp only [List.mem_cons, not_or] at hi
    rw [h2 i hi.2, wipe_ne (Ne.symm hi.1)]
  | [], _ :: _, _, _, h => by cases h
  | _ :: _, [], _, _, h => by cases h
theorem setPg_get {ts : List Nat} {one : Bool} {d : D} {e e' : List (Option D)} (h : setPg ts one d e = some e') : e'.length = e.length ∧ ∀ i, i ∉ ts → e'.getD i none = e.getD i none := by
  unfold setPg at h
  split at h
  · exact setPs_get h
  · cases d <;> first | cases h | exact setPs_get h
theorem setTs_get {f : Fl} : ∀ {ts : List Nat} {ds : List D} {e e' : List Slot}, Sd.setTs f ts ds e = some e' → ∀ i, i ∉ ts → e'.getD i .un = e.getD i .un
  | [], [], e, e', h => by simp only [Sd.setTs, Option.some.injEq] at h; subst h; exact fun _ _ => rfl
  | t :: ts, d :: ds, e, e', h => by
    simp only [Sd.setTs] at h
    intro i hi
    simp only [List.mem_cons, not_or] at hi
    rw [setTs_get h i hi.2, wipe_ne (Ne.symm hi.1)]
  | [], _ :: _, _, _, h => by cases h
  | _ :: _, [], _, _, h => by cases h
theorem setTg_get {f : Fl} {ts : List Nat} {one : Bool} {d : D} {e e' : List Slot} (h : Sd.setTg f ts one d e = some e') : ∀ i, i ∉ ts → e'.getD i .un = e.getD i .un := by
  unfold Sd.setTg at h
  split at h
  · exact setTs_get h
  · cases d <;> first | cases h | exact setTs_get h
theorem backP_len {e0 : List (Option D)} : ∀ {ts : List Nat} {e : List (Option D)}, (backP e0 e ts).length = e.length
  | [], _ => rfl
  | t :: ts, e => by simp only [backP, List.length_set, backP_len]
theorem backP_get {e0 : List (Option D)} : ∀ {ts : List Nat} {e : List (Option D)} {i : Nat}, (backP e0 e ts).getD i none = if i ∈ ts ∧ i < e.length then e0.getD i none else e.getD i none
  | [], e, i => by simp [backP]
  | t :: ts, e, i => by
    simp only [backP]
    rw [gD_set, backP_len, backP_get]
    by_cases h : t = i
    · subst h
      rw [if_pos rfl]
      by_cases h2 : t < e.length
      · rw [if_pos h2, if_pos ⟨List.mem_cons_self, h2⟩]
      · rw [if_neg h2, if_neg fun z => h2 z.2, List.getD_eq_getElem?_getD, List.getElem?_eq_none (by omega)]; rfl
    · rw [if_neg h]
      have : (i ∈ t :: ts ∧ i < e.length) ↔ (i ∈ ts ∧ i < e.length) := by simp [Ne.symm h]
      simp only [this]
theorem backP_self {e0 e : List (Option D)} {ts : List Nat} (hl : e.length = e0.length) (h : ∀ i, i ∉ ts → e.getD i none = e0.getD i none) : backP e0 e ts = e0 := by
  refine List.ext_getElem? fun i => ?_
  by_cases hi : i < e0.length
  · have h1 : (backP e0 e ts).getD i none = e0.getD i none := by
      rw [backP_get]
      split
      · rfl
      · rename_i hn
        refine h i fun z => hn ⟨z, by omega⟩
    have l1 : i < (backP e0 e ts).length := by rw [backP_len]; omega
    rw [List.getD_eq_getElem?_getD, List.getD_eq_getElem?_getD, List.getElem?_eq_getElem hi, List.getElem?_eq_getElem l1] at h1
    rw [List.getElem?_eq_getElem hi, List.getElem?_eq_getElem l1]
    exact congrArg some h1
  · rw [List.getElem?_eq_none (show (backP e0 e ts).length ≤ i by rw [backP_len]; omega), List.getElem?_eq_none (show e0.length ≤ i by omega)]
theorem backR_getP {r0 : List Slot} : ∀ {ts : List Nat} {r : List Slot} {i : Nat}, i ∉ ts → (backR r0 r ts).getD i .un = r.getD i .un
  | [], _, _, _ => rfl
  | t :: ts, r, i, h => by
    simp only [List.mem_cons, not_or] at h
    simp only [backR]
    split <;> rw [wipe_ne (Ne.symm h.1), backR_getP h.2]
section
variable {sm : Sm} {cl : Caller} {pcl : PCaller} {sg : Sig}
theorem g_mth {m : Mt} {i : Nat} {as : List IE} (gs : GF sm cl pcl sg as) : GE sm cl pcl sg (.mth m i as) := fun lv A A' R x c p h s => by
  simp only [lkE] at h
  split at h <;> first | cases h | skip
  rename_i F0 hA
  obtain ⟨⟨A1, g, ks, x1⟩, h1, k1⟩ := bnd h
  clear h
  dsimp only at h1 k1
  split at k1 <;> cases k1
  rename_i F hA1
  simp only [evE, pE]
  obtain ⟨f0, xs0, hr, hp, _⟩ := ow_get s hA
  have hown : isOwnL c i = true := by unfold isOwnL; rw [hr]
  rw [if_pos hown]
  refine SimO.bind (gs _ _ _ _ _ _ _ _ h1 s) .rf (y := x) .rf fun fd c1 ds p1 ⟨e1, hf, _, s1, t1⟩ => ?_
  obtain ⟨g1, ds'⟩ := fd
  cases e1
  obtain ⟨f1, xs, hr1, hp1, hf1⟩ := ow_get s1 hA1
  simp only [hr1, hp1]
  cases hm : mthD m xs ds' with
  | none => trivial
  | some dy =>
    obtain ⟨d, ys⟩ := dy
    refine .ok ⟨s1.set (i := i) ⟨Fl.le.mono hf1 hf, rfl, _, rfl⟩, RelA.rv (Fl.le.mono hf1 hf), ⟨by rw [List.length_set]; exact t1.len, fun j hj => ?_, fun z => by simp [noM] at z, fun z => by simp [noM] at z⟩, fun z => by simp [isL] at z⟩
    by_cases hij : i = j
    · subst hij; rw [hA] at hj; cases hj
    · rw [gD_set, if_neg hij]; exact t1.now j hj
theorem lc_go {lv : Nat} {own : List Nat} {B : List AS} {g X : Fl} {one : Fl × D → C → Out (Option (Fl × D))} {pone : D → PC → PO (Option D)} {f : Fl} {nm : Bool} {tg : List Nat} (hot : ∀ i ∈ own, i ∈ tg)
    {Q : D → Prop} (hs : ∀ x c p, Q x → Sim lv (wipeA B own) c p → SimO (one (f, x) c) (pone x p) X fun o c' o' p' => (match o, o' with | some hd, some d' => hd.2 = d' ∧ hd.1.le g | none, none => True | _, _ => False) ∧ Sim lv B c' p' ∧ StepL lv nm own tg c c' p p') :
    ∀ (xs : List D) (c : C) (p : PC), (∀ x ∈ xs, Q x) → Sim lv B c p → SimO (lcGo own one f xs c) (pcGo own pone xs p) X fun fd c' ds p' => fd.2 = ds ∧ fd.1.le g ∧ Sim lv B c' p' ∧ StepL lv nm own tg c c' p p'
  | [], c, p, _, s => by
    simp only [lcGo, pcGo]
    exact .ok ⟨rfl, .top, s, .refl⟩
  | x :: xs, c, p, hq, s => by
    simp only [lcGo, pcGo]
    refine SimO.bind (hs x _ _ (hq x List.mem_cons_self) (s.wipe own)) .rf (y := X) .rf fun o c1 o' p1 ⟨k, s1, t1⟩ => ?_
    refine SimO.bind (lc_go hot hs xs c1 p1 (fun y hy => hq y (List.mem_cons_of_mem _ hy)) s1) .rf (y := X) .rf fun fd c2 ds p2 ⟨e2, hg, s2, t2⟩ => ?_
    obtain ⟨g2, ds'⟩ := fd
    cases e2
    have t0 : StepL lv nm own tg c { c with r := wipeR c.r own } p { p with e := wipeP p.e own } := fun _ =>
      ⟨wipeP_len, fun i hi => wipeP_get hi, fun i hi => by
        show SlotStep lv _ ((wipeR c.r own).getD i .un)
        rw [wipeR_get fun z => hi (hot i z)]; exact .refl⟩
    have t : StepL lv nm own tg c c2 p p2 := (t0.trans t1).trans t2
    cases o with
    | none =>
      cases o' with
      | none => exact .ok ⟨rfl, hg, s2, t⟩
      | some d => exact k.elim
    | some hd =>
      cases o' with
      | none => exact k.elim
      | some d =>
        obtain ⟨h1, d1⟩ := hd
        obtain ⟨k1, k2⟩ := k
        cases k1
        exact .ok ⟨rfl, Fl.le.join (nrm_le k2) hg, s2, t⟩
theorem g_lc {e : IE} {ts : List Nat} {one : Bool} {it : IT} {cs : List IE} (ge : GE sm cl pcl sg e) (gi : GI sm cl pcl sg it) (gc : GC sm cl pcl sg cs) : GE sm cl pcl sg (.lc e ts one it cs) := fun lv A A' R x c p h s => by
  simp only [lkE] at h
  obtain ⟨⟨A1, F, kd, x1⟩, h1, k1⟩ := bnd h
  obtain ⟨⟨B, g, x2⟩, h2, k2⟩ := bnd k1
  cases k2
  clear h k1
  dsimp only at h1 h2
  obtain ⟨⟨B', hst, hle⟩, hup, hlen, hnow⟩ := fixA_spec h2
  obtain ⟨⟨B1, y1⟩, q1, k1⟩ := bnd hst
  obtain ⟨⟨B2, R2, y2⟩, q2, k2⟩ := bnd k1
  clear hst k1
  dsimp only at q1 q2 k2
  obtain ⟨B3, hj, k3⟩ := bnd k2
  cases k3
  obtain ⟨hl, rfl⟩ := joinC_some hj
  simp only [evE, pE]
  refine SimO.bind (gi _ _ _ _ _ _ _ _ h1 s) .jl (y := y1.join y2) .jr fun fd c0 xs p0 ⟨e1, hf, hkd, s1, t1⟩ => ?_
  obtain ⟨f, xs'⟩ := fd
  cases e1
  dsimp only
  by_cases hsz : xs'.length ≤ SZ
  case neg => rw [if_neg hsz, if_neg hsz]; trivial
  rw [if_pos hsz, if_pos hsz]
  have go := lc_go (lv := lv) (own := ts) (B := B) (g := R2.fo lv) (X := y1.join y2) (f := f) (nm := noM e && noMs cs) (tg := ts ++ tgts e ++ tgtss cs) (Q := KdOk kd)
    (one := fun (f, x) c => (ofOpt (Sd.setTg f ts one x c.r) c).bind fun r c => (evCs cl sg lv cs { c with r := r }).bind fun k c => if k then ((evE cl sg lv e c).z lv).bind fun fd c => .ok (some fd) c else .ok none c)
    (pone := fun x c => (pOpt (setPg ts one x c.e) c).bind fun r c => (pCs pcl sg cs { c with e := r }).bind fun k c => if k then (pE pcl sg e c).bind fun d c => .ok (some d) c else .ok none c)
    (fun i hi => by simp [hi])
    (fun x c p hk s => by
      dsimp only
      cases hset : setPg ts one x p.e with
      | none => trivial
      | some e' =>
        obtain ⟨r', hr', s2⟩ := s.setTg hf hk hset
        rw [hr']
        obtain ⟨g1, g2⟩ := setPg_get hset
        have g3 := setTg_get hr'
        show SimO ((evCs cl sg lv cs { c with r := r' }).bind _) ((pCs pcl sg cs { p with e := e' }).bind _) _ _
        refine SimO.bind (gc _ _ _ _ _ _ q1 s2) .jl (y := y2) .jr fun k c3 k' p3 ⟨e3, s3, t3⟩ => ?_
        subst e3
        have st3 : StepL lv (noM e && noMs cs) ts (ts ++ tgts e ++ tgtss cs) c c3 p p3 := fun hn => by
          simp only [Bool.and_eq_true] at hn
          refine ⟨by rw [t3.e hn.2]; exact g1, fun i hi => by rw [t3.e hn.2]; exact g2 i hi, fun i hi => ?_⟩
          simp only [List.mem_append, not_or] at hi
          have := t3.sl hn.2 i hi.2
          have e4 : ({ c with r := r' } : C).r.getD i .un = c.r.getD i .un := g3 i hi.1.1
          rw [e4] at this
          exact this
        cases k with
        | false => exact .ok ⟨trivial, (s3.joinL hl).leA hle, st3⟩
        | true =>
          simp only [if_true]
          refine SimO.bind (toZS (ge _ _ _ _ _ _ _ q2 s3)) .rf (y := y2) .rf fun fd c4 d p4 ⟨e4, hf4, s4, t4, _⟩ => ?_
          refine .ok ⟨⟨e4, hf4⟩, (s4.joinR hl).leA hle, st3.trans fun hn => ?_⟩
          simp only [Bool.and_eq_true] at hn
          refine ⟨by rw [t4.e hn.1], fun i _ => by rw [t4.e hn.1], fun i hi => ?_⟩
          simp only [List.mem_append, not_or] at hi
          exact t4.sl hn.1 i hi.1.2) xs' c0 p0 hkd (hup _ _ s1)
  revert go
  generalize lcGo ts _ f xs' c0 = o
  generalize pcGo ts _ xs' p0 = po
  intro go
  cases po with
  | stuck => trivial
  | exc _ _ _ => trivial
  | ok ds p1 =>
    obtain ⟨gd, c1, rfl, e5, hg5, s5, t5⟩ := go
    obtain ⟨g5, ds'⟩ := gd
    cases e5
    refine .ok ⟨Sim.back s1 (s5.wipeA ts), ⟨rfl, ⟨_, rfl⟩, hg5⟩, ⟨?_, ?_, ?_, ?_⟩, fun _ => ⟨_, rfl⟩⟩
    · rw [backA_len, wipeA_len, hlen]; exact t1.len
    · exact fun i h => backA_now i (wipeA_now i (hnow i (t1.now i h)))
    · intro hn
      simp only [noM, Bool.and_eq_true] at hn
      obtain ⟨u1, u2, _⟩ := t5 (by simp [hn.1.1, hn.2])
      show backP p0.e p1.e ts = p.e
      rw [backP_self u1 u2]
      exact t1.e hn.1.2
    · intro hn i hi
      simp only [noM, Bool.and_eq_true] at hn
      simp only [tgts, List.mem_append, not_or] at hi
      obtain ⟨_, _, u3⟩ := t5 (by simp [hn.1.1, hn.2])
      refine (t1.sl hn.1.2 i hi.1.2).trans ?_
      show SlotStep lv _ ((backR c0.r (wipeR c1.r ts) ts).getD i .un)
      rw [backR_getP hi.1.1.1, wipeR_get hi.1.1.1]
      exact u3 i (by simp only [List.mem_append, not_or]; exact ⟨⟨hi.1.1.1, hi.1.1.2⟩, hi.2⟩)
theorem rngD_ints {ds xs : List D} (h : rngD ds = some xs) : ∀ d ∈ xs, KdOk .allI d := by
  unfold rngD at h
  split at h
  all_goals first
    | (cases h; done)
    | (split at h <;> cases h
       intro d hd
       obtain ⟨k, _, rfl⟩ := List.mem_map.mp hd
       exact ⟨_, rfl⟩)
theorem enmD_firsts : ∀ {xs : List D} {k : Int}, ∀ d ∈ enmD k xs, KdOk .firstI d
  | [], _, d, h => by cases h
  | x :: xs, k, d, h => by
    simp only [enmD] at h
    rcases List.mem_cons.mp h with rfl | h
    · exact ⟨_, _, rfl⟩
    · exact enmD_firsts d h
theorem gi_rng {as : List IE} (gs : GF sm cl pcl sg as) : GI sm cl pcl sg (.rng as) := fun lv A A' f kd x c p h s => by
  simp only [lkIt] at h
  obtain ⟨⟨A1, g, ks, x1⟩, h1, k1⟩ := bnd h
  cases k1
  simp only [evIt, pIt]
  refine SimO.bind (gs _ _ _ _ _ _ _ _ h1 s) .rf (y := x1) .rf fun fd c1 ds p1 ⟨e1, hf, _, s1, t1⟩ => ?_
  obtain ⟨g1, ds'⟩ := fd
  cases e1
  dsimp only
  cases hr : rngD ds' with
  | none => trivial
  | some xs => exact .ok ⟨rfl, .rf, rngD_ints hr, s1, t1.imp (fun h => by simpa only [noMi] using h) (fun i h => by simpa only [tgtsi] using h)⟩
theorem gi_zip {a b : IE} (ga : GE sm cl pcl sg a) (gb : GE sm cl pcl sg b) : GI sm cl pcl sg (.zip a b) := fun lv A A' f kd x c p h s => by
  simp only [lkIt] at h
  obtain ⟨⟨A1, R1, x1⟩, h1, k1⟩ := bnd h
  obtain ⟨⟨A2, R2, x2⟩, h2, k2⟩ := bnd k1
  cases k2
  simp only [evIt, pIt]
  refine SimO.bind (toZS (ga _ _ _ _ _ _ _ h1 s)) .jl (y := x2) .jr fun fd c1 d p1 ⟨e1, hf, s1, t1, _⟩ => ?_
  obtain ⟨f1, d1⟩ := fd
  cases e1
  refine SimO.bind (toZS (gb _ _ _ _ _ _ _ h2 s1)) .rf (y := x2) .rf fun gd c2 y p2 ⟨e2, hg, s2, t2, _⟩ => ?_
  obtain ⟨g1, y1⟩ := gd
  cases e2
  dsimp only
  cases seqOf d1 with
  | none => trivial
  | some xs =>
    cases seqOf y1 with
    | none => trivial
    | some ys => exact .ok ⟨rfl, Fl.le.mono hf hg, fun _ _ => trivial, s2, t1.trans t2 (fun h => by simpa only [noMi, Bool.and_eq_true] using h) (fun i h => by simpa only [tgtsi, List.mem_append, not_or] using h)⟩
theorem gi_enm {a : IE} {st : List IE} (ga : GE sm cl pcl sg a) (gp : GP sm cl pcl sg st) : GI sm cl pcl sg (.enm a st) := fun lv A A' f kd x c p h s => by
  simp only [lkIt] at h
  obtain ⟨⟨A1, R1, x1⟩, h1, k1⟩ := bnd h
  obtain ⟨⟨A2, x2⟩, h2, k2⟩ := bnd k1
  cases k2
  simp only [evIt, pIt]
  refine SimO.bind (toZS (ga _ _ _ _ _ _ _ h1 s)) .jl (y := x2) .jr fun fd c1 d p1 ⟨e1, hf, s1, t1, _⟩ => ?_
  obtain ⟨f1, d1⟩ := fd
  cases e1
  refine SimO.bind (gp _ _ _ _ _ _ h2 s1) .rf (y := x2) .rf fun k c2 k' p2 ⟨e2, s2, t2⟩ => ?_
  subst e2
  dsimp only
  split
  · cases seqOf d1 with
    | none => trivial
    | some xs => exact .ok ⟨rfl, hf, enmD_firsts, s2, t1.trans t2 (fun h => by simpa only [noMi, Bool.and_eq_true] using h) (fun i h => by simpa only [tgtsi, List.mem_append, not_or] using h)⟩
  · trivial
theorem gi_e {a : IE} (ga : GE sm cl pcl sg a) : GI sm cl pcl sg (.e a) := fun lv A A' f kd x c p h s => by
  simp only [lkIt] at h
  obtain ⟨⟨A1, R1, x1⟩, h1, k1⟩ := bnd h
  cases k1
  simp only [evIt, pIt]
  refine SimO.bind (toZS (ga _ _ _ _ _ _ _ h1 s)) .rf (y := x1) .rf fun fd c1 d p1 ⟨e1, hf, s1, t1, _⟩ => ?_
  obtain ⟨f1, d1⟩ := fd
  cases e1
  dsimp only
  cases seqOf d1 with
  | none => trivial
  | some xs => exact .ok ⟨rfl, hf, fun _ _ => trivial, s1, t1.imp (fun h => by simpa only [noMi] using h) (fun i h => by simpa only [tgtsi] using h)⟩
theorem g_var {i : Nat} : GE sm cl pcl sg (.var i) := fun lv A A' R x c p h s => by
  simp only [lkE] at h
  have q := s.at_ i
  simp only [evE, pE]
  have pg : ∀ {d : D}, p.e.getD i none = some d → p.e[i]? = some (some d) := fun {d} e => by
    cases hh : p.e[i]? with
    | none => rw [List.getD_eq_getElem?_getD, hh] at e; cases e
    | some t => rw [gD hh] at e; rw [e]
  have rg : ∀ {t : Slot}, c.r.getD i .un = t → t ≠ .un → c.r[i]? = some t := fun {t} e ne => by
    cases hh : c.r[i]? with
    | none => rw [List.getD_eq_getElem?_getD, hh] at e; exact absurd e.symm ne
    | some u => rw [gD hh] at e; rw [e]
  have mem : i ∈ vars (.var i) := by simp [vars]
  split at h <;> cases h
  · rename_i hA
    rw [hA] at q
    cases hs : c.r.getD i .un with
    | un => rw [hs] at q; exact q.elim
    | ow f d => rw [hs] at q; exact q.elim
    | sh f d =>
      rw [hs] at q
      rw [pg q.2, rg hs (by intro z; cases z)]
      exact .ok ⟨s, ⟨rfl, q.1⟩, .refl, fun z => by simp [isL] at z⟩
  · rename_i hA
    rw [hA] at q
    cases hs : c.r.getD i .un with
    | un => rw [hs] at q; exact q.elim
    | ow f d =>
      rw [hs] at q
      rw [pg q.2.1, rg hs (by intro z; cases z)]
      exact .ok ⟨s, ⟨mem, q.2.1, f, .inr ⟨hs, q.1, by rw [hA]; rfl, q.2.2⟩⟩, .refl, fun z => by simp [isL] at z⟩
    | sh f d =>
      rw [hs] at q
      rw [pg q.2, rg hs (by intro z; cases z)]
      exact .ok ⟨s, ⟨rfl, q.1⟩, .refl, fun z => by simp [isL] at z⟩
  · rename_i hA
    rw [hA] at q
    cases hs : c.r.getD i .un with
    | un => rw [hs] at q; exact q.elim
    | ow f d => rw [hs] at q; exact q.elim
    | sh f d =>
      rw [hs] at q
      rw [pg q.2.1, rg hs (by intro z; cases z)]
      exact .ok ⟨s, ⟨rfl, q.1, q.2.2⟩, .refl, fun z => by simp [isL] at z⟩
  · rename_i f0 hA
    rw [hA] at q
    cases hs : c.r.getD i .un with
    | un => rw [hs] at q; exact q.elim
    | sh f d => rw [hs] at q; exact q.elim
    | ow f d =>
      rw [hs] at q
      rw [pg q.2.1, rg hs (by intro z; cases z)]
      exact .ok ⟨s, ⟨mem, q.2.1, f, rfl, .inr ⟨hs, q.1, q.2.2⟩⟩, .refl, fun z => by simp [isL] at z⟩
theorem g_int {i : Int} : GE sm cl pcl sg (.int i) := fun lv A A' R x c p h s => by
  simp only [lkE] at h
  cases h
  simp only [evE, pE]
  exact .ok ⟨s, RelA.nt ⟨_, rfl⟩ _, .refl, fun h => by simp [isL] at h⟩
theorem g_flat {e : IE} {d : D} (he : ∀ lv c, evE cl sg lv e c = .ok (rv Fl.top d) c) (hp : ∀ p, pE pcl sg e p = .ok d p) (hk : ∀ lv A, lkE sm lv e A = some (A, .val Fl.top, Fl.top)) (hi : imm d = true) (hl : isL e = false) : GE sm cl pcl sg e := fun lv A A' R x c p h s => by
  rw [hk] at h
  cases h
  rw [he, hp]
  exact flat s .refl hi hl
theorem g_stuck {e : IE} (hp : ∀ p, pE pcl sg e p = .stuck) : GE sm cl pcl sg e := fun lv A A' R x c p h s => by
  rw [hp]; trivial
mutual
theorem gAll (hc : ClS sm cl pcl) : ∀ e : IE, GE sm cl pcl sg e
  | .non => g_flat (d := .non) (fun _ _ => by simp only [evE]) (fun _ => by simp only [pE]) (fun _ _ => by simp only [lkE]) rfl (by simp only [isL])
  | .bl b => g_flat (d := .bl b) (fun _ _ => by simp only [evE]) (fun _ => by simp only [pE]) (fun _ _ => by simp only [lkE]) rfl (by simp only [isL])
  | .int b => g_int
  | .str b => g_flat (d := .str b) (fun _ _ => by simp only [evE]) (fun _ => by simp only [pE]) (fun _ _ => by simp only [lkE]) rfl (by simp only [isL])
  | .var i => g_var
  | .op2 o a b => g_op2 (gAll hc a) (gAll hc b)
  | .neg a => g_neg (gAll hc a)
  | .cmp o a b => g_cmp (gAll hc a) (gAll hc b)
  | .isN a => g_isN (gAll hc a)
  | .notN a => g_notN (gAll hc a)
  | .chn o o' a b d => g_chn (gAll hc a) (gAll hc b) (gAll hc d)
  | .and a b => g_and (gAll hc a) (gAll hc b)
  | .or a b => g_or (gAll hc a) (gAll hc b)
  | .not a => g_not (gAll hc a)
  | .ite t a b => g_ite (gAll hc t) (gAll hc a) (gAll hc b)
  | .lst xs => g_lst (gsAll hc xs)
  | .tup xs => g_tup (gfAll hc xs)
  | .star a => g_stuck fun p => by simp only [pE]
  | .ix a i => g_ix (gAll hc a) (gAll hc i)
  | .slc a lo hi => g_slc (gAll hc a) (gpAll hc lo) (gpAll hc hi)
  | .rev a => g_rev (gAll hc a)
  | .call f as ks kas => g_call hc (gaAll hc as) (gaAll hc kas)
  | .blt b as => g_blt (gaAll hc as)
  | .isa a ts => g_isa (gAll hc a)
  | .mth m i as => g_mth (gfAll hc as)
  | .lc e ts one it cs => g_lc (gAll hc e) (giAll hc it) (gcAll hc cs)
  | .lrng as => g_lrng (gfAll hc as)
  | .never => g_stuck fun p => by simp only [pE]
theorem gaAll (hc : ClS sm cl pcl) : ∀ es : List IE, GA sm cl pcl sg es
  | [] => ga_nil
  | e :: es => ga_cons (gAll hc e) (gaAll hc es)
theorem gfAll (hc : ClS sm cl pcl) : ∀ es : List IE, GF sm cl pcl sg es
  | [] => gf_nil
  | e :: es => gf_cons (gAll hc e) (gfAll hc es)
theorem gsAll (hc : ClS sm cl pcl) : ∀ es : List IE, GS sm cl pcl sg es
  | [] => gs_nil
  | e :: es => by
    by_cases h : ∃ a, e = .star a
    · match e, h with
      | .star a, _ => exact gs_star (gAll hc a) (gsAll hc es)
    · exact gs_cons (fun a z => h ⟨a, z⟩) (gAll hc e) (gsAll hc es)
theorem gpAll (hc : ClS sm cl pcl) : ∀ es : List IE, GP sm cl pcl sg es
  | [] => gp_nil
  | e :: es => gp_cons (gAll hc e)
theorem gcAll (hc : ClS sm cl pcl) : ∀ es : List IE, GC sm cl pcl sg es
  | [] => gc_nil
  | e :: es => gc_cons (gAll hc e) (gcAll hc es)
theorem giAll (hc : ClS sm cl pcl) : ∀ it : IT, GI sm cl pcl sg it
  | .e a => gi_e (gAll hc a)
  | .rng as => gi_rng (gfAll hc as)
  | .zip a b => gi_zip (gAll hc a) (gAll hc b)
  | .enm a st => gi_enm (gAll hc a) (gpAll hc st)
  | .itm a => fun lv A A' f kd x c p h s => by simp only [pIt]; trivial
end
end
end Sd

/-! Pu6: rows, blocks, programs. -/
namespace Sd
open PySem PySem.Spec PyProof.Rows L2
def SimW (lv : Nat) (S : LS) (o : Fw) (po : PF) : Prop := match po with
  | .nx p' => ∃ c' A', o = .nx c' ∧ S.nx = some A' ∧ Sim lv A' c' p'
  | .rt d p' => ∃ f c', o = .rt f d c' ∧ f.le S.rt ∧ c'.s = p'.s ∧ (S.ti = true → isInt d)
  | .exc x d p' => ∃ fl c', o = .exc ⟨x, fl, d⟩ c' ∧ fl.le S.x ∧ c'.s = p'.s
  | .stuck => True
theorem SimO.w {α β : Type} {lv : Nat} {o : Out α} {po : PO β} {x : Fl} {K : α → C → β → PC → Prop} {f : α → C → Fw} {g : β → PC → PF} {S : LS} (h : SimO o po x K) (hx : x.le S.x) (k : ∀ a c b p, K a c b p → SimW lv S (f a c) (g b p)) : SimW lv S (o.w f) (po.w g) := by
  cases po with
  | ok b p => obtain ⟨a, c, rfl, h⟩ := h; exact k a c b p h
  | exc cls d p => obtain ⟨fl, c, rfl, h1, h2⟩ := h; exact ⟨fl, c, rfl, h1.trans hx, h2⟩
  | stuck => trivial
theorem SimW.mono {lv : Nat} {S T : LS} {o : Fw} {po : PF} (h : SimW lv S o po) (hn : ∀ A, S.nx = some A → T.nx = some A) (h1 : S.rt.le T.rt) (h2 : S.x.le T.x) (h3 : T.ti = true → S.ti = true) : SimW lv T o po := by
  cases po with
  | nx p => obtain ⟨c', A', e, e2, s⟩ := h; exact ⟨c', A', e, hn _ e2, s⟩
  | rt d p => obtain ⟨f, c', e, hf, hs, hi⟩ := h; exact ⟨f, c', e, hf.trans h1, hs, fun z => hi (h3 z)⟩
  | exc x d p => obtain ⟨f, c', e, hf, hs⟩ := h; exact ⟨f, c', e, hf.trans h2, hs⟩
  | stuck => trivial
/-- .. where what goes on is said otherwise -/
theorem SimW.next {lv : Nat} {S T : LS} {o : Fw} {po : PF} (h : SimW lv S o po) (hn : ∀ A c p, S.nx = some A → Sim lv A c p → ∃ B, T.nx = some B ∧ Sim lv B c p) (h1 : S.rt.le T.rt) (h2 : S.x.le T.x) (h3 : T.ti = true → S.ti = true) : SimW lv T o po := by
  cases po with
  | nx p =>
    obtain ⟨c', A', e, e2, s⟩ := h
    obtain ⟨B, e3, s2⟩ := hn _ _ _ e2 s
    exact ⟨c', B, e, e3, s2⟩
  | rt d p => obtain ⟨f, c', e, hf, hs, hi⟩ := h; exact ⟨f, c', e, hf.trans h1, hs, fun z => hi (h3 z)⟩
  | exc x d p => obtain ⟨f, c', e, hf, hs⟩ := h; exact ⟨f, c', e, hf.trans h2, hs⟩
  | stuck => trivial
section
variable (sm : Sm) (cl : Caller) (pcl : PCaller) (sg : Sig)
def GW (i : IS) : Prop := ∀ lv sp A S c p, lkI sm lv sp i A = some S → Sim lv A c p → SimW lv S (exS cl sg lv sp i c) (pS pcl sg i p)
def GL (is : List IS) : Prop := ∀ lv sp A S c p, lkL sm lv sp is A = some S → Sim lv A c p → SimW lv S (exL cl sg lv sp is c) (pL pcl sg is p)
end
section
variable {sm : Sm} {cl : Caller} {pcl : PCaller} {sg : Sig}
theorem w_expr {e : IE} (ge : GE sm cl pcl sg e) : GW sm cl pcl sg (.expr e) := fun lv sp A S c p h s => by
  simp only [lkI] at h
  obtain ⟨⟨A1, R, x⟩, h1, k1⟩ := bnd h
  cases k1
  simp only [exS, pS]
  exact SimO.w (ge _ _ _ _ _ _ _ h1 s) .rf fun r c1 d p1 ⟨s1, _, _, _⟩ => ⟨c1, A1, rfl, rfl, s1⟩
/-- a value, for a name that owns it or not -/
theorem own_ok {lv : Nat} {A : List AS} {c : C} {p : PC} {vs : List Nat} {r : R} {d : D} {R : AR} {own : Bool} (h : RelA lv A c p vs r d R) (s : Sim lv A c p) (i : Nat) :
    ∃ c', asgS lv i own r c = .nx c' ∧ Sim lv ((lownA lv A own R).1.set i (lownA lv A own R).2) c' { p with e := p.e.set i (some d) } := by
  have gen : ∀ (a : AS) (F : Fl), R.fo lv = F → (a = .sh F ∨ a = .so F) → ∃ c', ((frz lv c r).w fun (f, d) c => Fw.nx { c with r := c.r.set i (.sh (nrm d f) d) }) = .nx c' ∧ Sim lv ((frzA lv A R).set i a) c' { p with e := p.e.set i (some d) } := fun a F hF ha => by
    obtain ⟨f, c1, e1, hf, s1, _⟩ := h.frz s
    rw [e1]
    refine ⟨_, rfl, s1.set (i := i) ?_⟩
    rw [hF] at hf
    rcases ha with rfl | rfl <;> exact ⟨nrm_le hf, rfl⟩
  by_cases hnt : R = .nt
  · subst hnt
    have e2 : lownA lv A own .nt = (A, .nt) := by cases own <;> rfl
    rw [e2]
    cases r with
    | new f e => exact h.2.2.elim
    | bor j => obtain ⟨_, _, _, h⟩ := h; exact h.elim
    | val f e =>
      obtain ⟨rfl, h1, h2⟩ := h
      have e1 : asgS lv i own (.val f e) c = Fw.nx { c with r := c.r.set i (.sh (nrm e f) e) } := by cases own <;> rfl
      rw [e1]
      exact ⟨_, rfl, s.set (i := i) ⟨nrm_le h1, rfl, h2⟩⟩
  cases own with
  | false =>
    have e1 : asgS lv i false r c = (frz lv c r).w fun (f, d) c => Fw.nx { c with r := c.r.set i (.sh (nrm d f) d) } := by cases r <;> rfl
    have e2 : lownA lv A false R = (frzA lv A R, .sh (R.fo lv)) := by cases R <;> first | rfl | exact absurd rfl hnt
    rw [e1, e2]
    exact gen _ _ rfl (.inl rfl)
  | true =>
    cases R with
    | nt => exact absurd rfl hnt
    | new F =>
      cases r with
      | val f e => exact h.2.elim
      | bor j => obtain ⟨_, _, _, h⟩ := h; exact h.elim
      | new f e =>
        obtain ⟨rfl, hl, hf⟩ := h
        exact ⟨_, rfl, s.set (i := i) ⟨hf, rfl, hl⟩⟩
    | val F =>
      cases r with
      | val f e => exact gen (.so F) F rfl (.inr rfl)
      | bor j => exact gen (.so F) F rfl (.inr rfl)
      | new f e =>
        obtain ⟨rfl, hl, hf⟩ := h
        exact ⟨_, rfl, s.set (i := i) ⟨hf, rfl, hl⟩⟩
    | bor j F =>
      cases r with
      | val f e => exact h.2.elim
      | new f e => exact h.2.2.elim
      | bor j' => exact gen _ _ rfl (.inl rfl)
theorem w_asg {i : Nat} {own : Bool} {e : IE} (ge : GE sm cl pcl sg e) : GW sm cl pcl sg (.asg i own e) := fun lv sp A S c p h s => by
  simp only [lkI] at h
  obtain ⟨⟨A1, R, x⟩, h1, k1⟩ := bnd h
  cases k1
  simp only [exS, pS]
  refine SimO.w (ge _ _ _ _ _ _ _ h1 s) .rf fun r c1 d p1 ⟨s1, r1, _, _⟩ => ?_
  obtain ⟨c', e1, s2⟩ := own_ok (own := own) r1 s1 i
  rw [e1]
  exact ⟨c', _, rfl, rfl, s2⟩
theorem w_asgT {ts : List Nat} {e : IE} (ge : GE sm cl pcl sg e) : GW sm cl pcl sg (.asgT ts e) := fun lv sp A S c p h s => by
  simp only [lkI] at h
  obtain ⟨⟨A1, R, x⟩, h1, k1⟩ := bnd h
  cases k1
  simp only [exS, pS]
  refine SimO.w (toZS (ge _ _ _ _ _ _ _ h1 s)) .rf fun fd c1 d p1 ⟨e1, hf, s1, _, _⟩ => ?_
  obtain ⟨f, d'⟩ := fd
  cases e1
  dsimp only
  cases hq : seqOf d' with
  | none => trivial
  | some xs =>
    cases hset : setPs ts xs p1.e with
    | none => simp only [Option.bind, hset, pOpt]; trivial
    | some e' =>
      obtain ⟨r', hr, s2⟩ := Sim.setTs (ks := []) hf (by cases xs <;> trivial) s1 hset
      simp only [Option.bind, hset, hr, pOpt, Sd.ofOpt]
      exact ⟨_, _, rfl, rfl, s2⟩
theorem w_par {ts : List Nat} {es : List IE} (gs : GF sm cl pcl sg es) : GW sm cl pcl sg (.par ts es) := fun lv sp A S c p h s => by
  simp only [lkI] at h
  obtain ⟨⟨A1, F, ks, x⟩, h1, k1⟩ := bnd h
  cases k1
  simp only [exS, pS]
  refine SimO.w (gs _ _ _ _ _ _ _ _ h1 s) .rf fun fd c1 ds p1 ⟨e1, hf, hk, s1, _⟩ => ?_
  obtain ⟨f, ds'⟩ := fd
  cases e1
  dsimp only
  cases hset : setPs ts ds' p1.e with
  | none => trivial
  | some e' =>
    obtain ⟨r', hr, s2⟩ := Sim.setTs hf hk s1 hset
    rw [hr]
    exact ⟨_, _, rfl, rfl, s2⟩
/-- new things and values, for several names -/
def RN (lv : Nat) : List R → List D → List AS → Prop
  | [], [], [] => True
  | r :: rs, d :: ds, a :: as => (match r with
      | .new f d' => d' = d ∧ SlotS lv a (.ow f d) (some d)
      | .val f d' => d' = d ∧ SlotS lv a (.sh f d) (some d)
      | _ => False) ∧ RN lv rs ds as
  | _, _, _ => False
theorem n_all : ∀ (es : List (Bool × IE)), (∀ oe ∈ es, GE sm cl pcl sg oe.2) → ∀ lv A A' ss x c p, lkN sm lv es A = some (A', ss, x) → Sim lv A c p → SimO (evN cl sg lv es c) (pN pcl sg es p) x fun rs c' ds p' => Sim lv A' c' p' ∧ RN lv rs ds ss
  | [], _, lv, A, A', ss, x, c, p, h, s => by
    simp only [lkN] at h
    cases h
    simp only [evN, pN]
    exact .ok ⟨s, trivial⟩
  | (o, e) :: es, ge, lv, A, A', ss, x, c, p, h, s => by
    simp only [lkN] at h
    obtain ⟨⟨A1, R, x1⟩, h1, k1⟩ := bnd h
    obtain ⟨⟨A2, ss2, x2⟩, h2, k2⟩ := bnd k1
    cases k2
    have ih := n_all es fun oe hoe => ge oe (List.mem_cons_of_mem _ hoe)
    simp only [evN, pN]
    refine SimO.bind (ge (o, e) List.mem_cons_self _ _ _ _ _ _ _ h1 s) .jl (y := x2) .jr fun r c1 d p1 ⟨s1, r1, _, _⟩ => ?_
    have gen : ∀ a : AS, (lownA lv A1 o R).1 = frzA lv A1 R → ((lownA lv A1 o R).2 = .sh (R.fo lv) ∨ (lownA lv A1 o R).2 = .so (R.fo lv)) →
        SimO ((frz lv c1 r).bind fun (f, d) c => (evN cl sg lv es c).bind fun rs c => .ok (Sd.R.val (nrm d f) d :: rs) c) ((pN pcl sg es p1).bind fun ds c => .ok (d :: ds) c) x2 fun rs c' ds p' => Sim lv A2 c' p' ∧ RN lv rs ds ((lownA lv A1 o R).2 :: ss2) := fun _ ha hb => by
      obtain ⟨f, c2, e2, hf, s2, _⟩ := r1.frz s1
      rw [e2]
      rw [ha] at h2
      show SimO ((evN cl sg lv es c2).bind fun rs c => .ok (Sd.R.val (nrm d f) d :: rs) c) _ _ _
      refine SimO.bind (ih _ _ _ _ _ _ _ h2 s2) .rf (y := x2) .rf fun rs c3 ds p3 ⟨s3, r3⟩ => ?_
      refine .ok ⟨s3, ⟨rfl, ?_⟩, r3⟩
      rcases hb with hb | hb <;> rw [hb] <;> exact ⟨nrm_le hf, rfl⟩
    by_cases hnt : R = .nt
    · subst hnt
      have e2 : lownA lv A1 o .nt = (A1, .nt) := by cases o <;> rfl
      rw [e2] at h2
      rw [e2]
      cases r with
      | new f e => exact r1.2.2.elim
      | bor j => obtain ⟨_, _, _, h⟩ := r1; exact h.elim
      | val f e =>
        obtain ⟨rfl, h1', h2'⟩ := r1
        have q : SimO ((evN cl sg lv es c1).bind fun rs c => .ok (Sd.R.val (nrm e f) e :: rs) c) ((pN pcl sg es p1).bind fun ds c => .ok (e :: ds) c) x2 fun rs c' ds p' => Sim lv A2 c' p' ∧ RN lv rs ds (.nt :: ss2) := by
          refine SimO.bind (ih _ _ _ _ _ _ _ h2 s1) .rf (y := x2) .rf fun rs c3 ds p3 ⟨s3, r3⟩ => ?_
          exact .ok ⟨s3, ⟨rfl, nrm_le h1', rfl, h2'⟩, r3⟩
        cases o <;> exact q
    cases o with
    | false =>
      have e1 : lownA lv A1 false R = (frzA lv A1 R, .sh (R.fo lv)) := by cases R <;> first | rfl | exact absurd rfl hnt
      have q := gen .un (by rw [e1]) (.inl (by rw [e1]))
      cases r <;> exact q
    | true =>
      have newc : ∀ (f : Fl), r = .new f d → isLst d → SlotS lv (lownA lv A1 true R).2 (.ow f d) (some d) → (lownA lv A1 true R).1 = A1 →
          SimO (match true, r with
            | true, .new f d => (evN cl sg lv es c1).bind fun rs c => .ok (.new f d :: rs) c
            | _, r => (frz lv c1 r).bind fun (f, d) c => (evN cl sg lv es c).bind fun rs c => .ok (Sd.R.val (nrm d f) d :: rs) c) ((pN pcl sg es p1).bind fun ds c => .ok (d :: ds) c) x2 fun rs c' ds p' => Sim lv A2 c' p' ∧ RN lv rs ds ((lownA lv A1 true R).2 :: ss2) := fun f hr hl hs ha => by
        subst hr
        rw [ha] at h2
        refine SimO.bind (ih _ _ _ _ _ _ _ h2 s1) .rf (y := x2) .rf fun rs c3 ds p3 ⟨s3, r3⟩ => ?_
        exact .ok ⟨s3, ⟨rfl, hs⟩, r3⟩
      cases R with
      | nt => exact absurd rfl hnt
      | new F =>
        cases r with
        | val f e => exact r1.2.elim
        | bor j => obtain ⟨_, _, _, h⟩ := r1; exact h.elim
        | new f e =>
          obtain ⟨rfl, hl, hf⟩ := r1
          exact newc f rfl hl ⟨hf, rfl, hl⟩ rfl
      | val F =>
        cases r with
        | val f e => exact gen .un rfl (.inr rfl)
        | bor j => exact gen .un rfl (.inr rfl)
        | new f e =>
          obtain ⟨rfl, hl, hf⟩ := r1
          exact newc f rfl hl ⟨hf, rfl, hl⟩ rfl
      | bor j F =>
        cases r with
        | val f e => exact r1.2.elim
        | new f e => exact r1.2.2.elim
        | bor j' => exact gen .un rfl (.inl rfl)
theorem Sim.setRs {lv : Nat} : ∀ {ts : List Nat} {rs : List R} {ds : List D} {ss : List AS} {A : List AS} {c : C} {p : PC} {e' : List (Option D)}, RN lv rs ds ss → Sim lv A c p → setPs ts ds p.e = some e' → ∃ r', Sd.setRs ts rs c.r = some r' ∧ Sim lv (setAss ts ss A) { c with r := r' } { p with e := e' }
  | [], [], [], [], A, c, p, e', _, s, h => by
    simp only [setPs, Option.some.injEq] at h
    subst h
    exact ⟨c.r, rfl, s⟩
  | t :: ts, r :: rs, d :: ds, a :: ss, A, c, p, e', hr, s, h => by
    simp only [setPs] at h
    obtain ⟨h1, h2⟩ := hr
    cases r with
    | val f d' =>
      obtain ⟨rfl, h1⟩ := h1
      have q := Sim.setRs h2 (s.set (i := t) h1) h
      exact q
    | new f d' =>
      obtain ⟨rfl, h1⟩ := h1
      have q := Sim.setRs h2 (s.set (i := t) h1) h
      exact q
    | bor i => exact h1.elim
  | [], _ :: _, _ :: _, _, _, _, _, _, _, _, h => by cases h
  | _ :: _, [], [], _, _, _, _, _, _, _, h => by cases h
  | _, [], _ :: _, _, _, _, _, _, hr, _, _ => hr.elim
  | _, _ :: _, [], _, _, _, _, _, hr, _, _ => hr.elim
  | _, [], [], _ :: _, _, _, _, _, hr, _, _ => hr.elim
  | _, _ :: _, _ :: _, [], _, _, _, _, hr, _, _ => hr.elim
theorem w_parO {ts : List Nat} {es : List (Bool × IE)} (ge : ∀ oe ∈ es, GE sm cl pcl sg oe.2) : GW sm cl pcl sg (.parO ts es) := fun lv sp A S c p h s => by
  simp only [lkI] at h
  obtain ⟨⟨A1, ss, x⟩, h1, k1⟩ := bnd h
  cases k1
  simp only [exS, pS]
  refine SimO.w (n_all es ge _ _ _ _ _ _ _ h1 s) .rf fun rs c1 ds p1 ⟨s1, r1⟩ => ?_
  cases hset : setPs ts ds p1.e with
  | none => trivial
  | some e' =>
    obtain ⟨r', hr, s2⟩ := Sim.setRs r1 s1 hset
    rw [hr]
    exact ⟨_, _, rfl, rfl, s2⟩
theorem w_setIx {i : Nat} {ix e : IE} (gi : GE sm cl pcl sg ix) (ge : GE sm cl pcl sg e) : GW sm cl pcl sg (.setIx i ix e) := fun lv sp A S c p h s => by
  simp only [lkI] at h
  obtain ⟨⟨A1, R1, x1⟩, h1, k1⟩ := bnd h
  clear h
  dsimp only at h1 k1
  split at k1 <;> first | cases k1 | skip
  rename_i F0 hA1
  obtain ⟨⟨A2, R2, x2⟩, h2, k2⟩ := bnd k1
  clear k1
  dsimp only at h2 k2
  split at k2 <;> cases k2
  rename_i F hA2
  simp only [exS, pS]
  refine SimO.w (toZS (ge _ _ _ _ _ _ _ h1 s)) .jl fun fd c1 d p1 ⟨e1, hf, s1, _, _⟩ => ?_
  obtain ⟨f, d'⟩ := fd
  cases e1
  obtain ⟨f0, xs0, hr0, _, _⟩ := ow_get s1 hA1
  have hown : isOwnL c1 i = true := by unfold isOwnL; rw [hr0]
  dsimp only
  rw [if_pos hown]
  refine SimO.w (toZS (gi _ _ _ _ _ _ _ h2 s1)) .jr fun gd c2 k p2 ⟨e2, hg, s2, _, _⟩ => ?_
  obtain ⟨g, k'⟩ := gd
  cases e2
  obtain ⟨f1, xs, hr, hp, hf1⟩ := ow_get s2 hA2
  simp only [hr, hp]
  cases k' <;> first | trivial | skip
  rename Int => kk
  dsimp only
  cases ixN xs.length kk with
  | none => trivial
  | some j => exact ⟨_, _, rfl, rfl, s2.set (i := i) ⟨Fl.le.mono hf1 (nrm_le hf), rfl, _, rfl⟩⟩
theorem w_ret {e : IE} (ge : GE sm cl pcl sg e) : GW sm cl pcl sg (.ret e) := fun lv sp A S c p h s => by
  simp only [lkI] at h
  obtain ⟨⟨A1, R, x⟩, h1, k1⟩ := bnd h
  cases k1
  simp only [exS, pS]
  refine SimO.w (toZS (ge _ _ _ _ _ _ _ h1 s)) .rf fun fd c1 d p1 ⟨e1, hf, s1, _, _, hi⟩ => ?_
  obtain ⟨f, d'⟩ := fd
  cases e1
  exact ⟨_, _, rfl, nrm_le hf, s1.s, hi⟩
theorem w_retN : GW sm cl pcl sg .retN := fun lv sp A S c p h s => by
  simp only [lkI] at h
  cases h
  simp only [exS, pS]
  exact ⟨_, _, rfl, .rf, s.s, fun z => by cases z⟩
theorem w_ite {t : IE} {a b : List IS} (gt : GE sm cl pcl sg t) (ga : GL sm cl pcl sg a) (gb : GL sm cl pcl sg b) : GW sm cl pcl sg (.ite t a b) := fun lv sp A S c p h s => by
  simp only [lkI] at h
  obtain ⟨⟨A1, R, x⟩, h1, k1⟩ := bnd h
  obtain ⟨T, h2, k2⟩ := bnd k1
  obtain ⟨U, h3, k3⟩ := bnd k2
  obtain ⟨nx, h4, k4⟩ := bnd k3
  cases k4
  simp only [exS, pS]
  refine SimO.w (toTS (gt _ _ _ _ _ _ _ h1 s)) (Fl.le.jl' .jl) fun k c1 k' p1 ⟨e1, s1, _⟩ => ?_
  subst e1
  cases k with
  | true =>
    simp only [if_true]
    refine (ga _ _ _ _ _ _ h2 s1).next (fun A' c p e sA => ?_) .jl (Fl.le.jl' .jr) (fun z => by simp only [Bool.and_eq_true] at z; exact z.1)
    cases hU : U.nx with
    | none => rw [e, hU] at h4; cases h4; exact ⟨_, rfl, sA⟩
    | some B =>
      rw [e, hU] at h4
      obtain ⟨X, hX, hn⟩ := opt_map h4
      subst hn
      obtain ⟨hl, rfl⟩ := joinC_some hX
      exact ⟨_, rfl, sA.joinL hl⟩
  | false =>
    simp only [Bool.false_eq_true, if_false]
    refine (gb _ _ _ _ _ _ h3 s1).next (fun A' c p e sA => ?_) .jr .jr (fun z => by simp only [Bool.and_eq_true] at z; exact z.2)
    cases hT : T.nx with
    | none => rw [e, hT] at h4; cases h4; exact ⟨_, rfl, sA⟩
    | some B =>
      rw [e, hT] at h4
      obtain ⟨X, hX, hn⟩ := opt_map h4
      subst hn
      obtain ⟨hl, rfl⟩ := joinC_some hX
      exact ⟨_, rfl, sA.joinR hl⟩
theorem for_go {lv : Nat} {B : List AS} {rt x : Fl} {ti : Bool} {one : D → C → Fw} {pone : D → PC → PF} {Q : D → Prop} (hs : ∀ d c p, Q d → Sim lv B c p → SimW lv ⟨some B, rt, ti, x⟩ (one d c) (pone d p)) : ∀ (xs : List D) (c : C) (p : PC), (∀ d ∈ xs, Q d) → Sim lv B c p → SimW lv ⟨some B, rt, ti, x⟩ (forGo one xs c) (pfGo pone xs p)
  | [], c, p, _, s => ⟨c, B, rfl, rfl, s⟩
  | d :: xs, c, p, hq, s => by
    simp only [forGo, pfGo]
    have q := hs d c p (hq d List.mem_cons_self) s
    cases hp : pone d p with
    | nx p' =>
      rw [hp] at q
      obtain ⟨c', A', e, e2, s'⟩ := q
      cases e2
      rw [e]
      exact for_go hs xs c' p' (fun y hy => hq y (List.mem_cons_of_mem _ hy)) s'
    | rt d' p' => rw [hp] at q; obtain ⟨f, c', e, hf, hs'⟩ := q; rw [e]; exact ⟨f, c', rfl, hf, hs'⟩
    | exc cls d' p' => rw [hp] at q; obtain ⟨f, c', e, hf, hs'⟩ := q; rw [e]; exact ⟨f, c', rfl, hf, hs'⟩
    | stuck => trivial
theorem w_for {ts : List Nat} {one : Bool} {it : IT} {body : List IS} (gi : GI sm cl pcl sg it) (gb : GL sm cl pcl sg body) : GW sm cl pcl sg (.for ts one it body) := fun lv sp A S c p h s => by
  simp only [lkI] at h
  obtain ⟨⟨A1, F, kd, x1⟩, h1, k1⟩ := bnd h
  obtain ⟨⟨B, rt, ti, x2⟩, h2, k2⟩ := bnd k1
  cases k2
  clear h k1
  dsimp only at h1 h2
  obtain ⟨⟨B', hst, hle⟩, hup, _, _⟩ := fixA_spec h2
  obtain ⟨T, h3, k3⟩ := bnd hst
  cases k3
  simp only [exS, pS]
  refine SimO.w (gi _ _ _ _ _ _ _ _ h1 s) .jl fun fd c1 xs p1 ⟨e1, hf, hkd, s1, _⟩ => ?_
  obtain ⟨f, xs'⟩ := fd
  cases e1
  refine (for_go (B := B) (rt := T.rt) (ti := T.ti) (x := T.x) (Q := KdOk kd) (fun d c p hk s => ?_) xs' c1 p1 hkd (hup _ _ s1)).mono (fun _ h => h) .rf .jr id
  cases hset : setPg ts one d p.e with
  | none => trivial
  | some e' =>
    obtain ⟨r', hr', s2⟩ := s.setTg hf hk hset
    rw [hr']
    refine SimW.next (gb _ _ _ _ _ _ h3 s2) (fun A' c p e sA => ?_) .rf .rf id
    rw [e] at hle
    exact ⟨_, rfl, sA.leA hle⟩
theorem wh_go {lv : Nat} {B B1 : List AS} {rt x : Fl} {ti : Bool} {test : C → Out Bool} {body : C → Fw} {ptest : PC → PO Bool} {pbody : PC → PF}
    (ht : ∀ c p, Sim lv B c p → SimO (test c) (ptest p) x fun k c' k' p' => k = k' ∧ Sim lv B1 c' p') (hb : ∀ c p, Sim lv B1 c p → SimW lv ⟨some B, rt, ti, x⟩ (body c) (pbody p)) : ∀ (n : Nat) (c : C) (p : PC), Sim lv B c p → SimW lv ⟨some B1, rt, ti, x⟩ (whlGo test body n c) (pwGo ptest pbody n p)
  | 0, c, p, s => trivial
  | n + 1, c, p, s => by
    simp only [whlGo, pwGo]
    have q := ht c p s
    cases hp : ptest p with
    | ok k p' =>
      rw [hp] at q
      obtain ⟨k', c', e, rfl, s'⟩ := q
      rw [e]
      cases k' with
      | false => exact ⟨c', B1, rfl, rfl, s'⟩
      | true =>
        have q2 := hb c' p' s'
        dsimp only
        cases hp2 : pbody p' with
        | nx p2 =>
          rw [hp2] at q2
          obtain ⟨c2, A', e2, e3, s2⟩ := q2
          cases e3
          rw [e2]
          exact wh_go ht hb n c2 p2 s2
        | rt d' p' => rw [hp2] at q2; obtain ⟨f, c', e, hf, hs'⟩ := q2; rw [e]; exact ⟨f, c', rfl, hf, hs'⟩
        | exc cls d' p' => rw [hp2] at q2; obtain ⟨f, c', e, hf, hs'⟩ := q2; rw [e]; exact ⟨f, c', rfl, hf, hs'⟩
        | stuck => trivial
    | exc cls d p' => rw [hp] at q; obtain ⟨f, c', e, hf, hs'⟩ := q; rw [e]; exact ⟨f, c', rfl, hf, hs'⟩
    | stuck => trivial
theorem w_while {t : IE} {body : List IS} (gt : GE sm cl pcl sg t) (gb : GL sm cl pcl sg body) : GW sm cl pcl sg (.while t body) := fun lv sp A S c p h s => by
  simp only [lkI] at h
  obtain ⟨⟨B, rt, ti, x⟩, h1, k1⟩ := bnd h
  obtain ⟨⟨B1, R, x0⟩, h2, k2⟩ := bnd k1
  cases k2
  clear h k1
  dsimp only at h1 h2
  obtain ⟨⟨B', hst, hle⟩, hup, _, _⟩ := fixA_spec h1
  obtain ⟨⟨B1', R', x1⟩, h3, k3⟩ := bnd hst
  rw [h2] at h3
  cases h3
  obtain ⟨T, h4, k4⟩ := bnd k3
  cases k4
  simp only [exS, pS]
  refine wh_go (B := B) (fun c p s => ?_) (fun c p s => ?_) _ _ _ (hup _ _ s)
  · exact (toTS (gt _ _ _ _ _ _ _ h2 s)).imp .jl fun k c1 k' p1 ⟨e1, s1, _⟩ => ⟨e1, s1⟩
  · refine SimW.next (gb _ _ _ _ _ _ h4 s) (fun A' c p e sA => ?_) .rf .jr id
    rw [e] at hle
    exact ⟨_, rfl, sA.leA hle⟩
theorem w_raise {x : Str} {as : List IE} (gs : GF sm cl pcl sg as) : GW sm cl pcl sg (.raise x as) := fun lv sp A S c p h s => by
  simp only [lkI] at h
  obtain ⟨⟨A1, F, ks, y⟩, h1, k1⟩ := bnd h
  cases k1
  simp only [exS, pS]
  refine SimO.w (gs _ _ _ _ _ _ _ _ h1 s) .jr fun fd c1 ds p1 ⟨e1, hf, _, s1, _⟩ => ?_
  obtain ⟨f, ds'⟩ := fd
  cases e1
  dsimp only
  split
  · exact ⟨_, _, rfl, Fl.le.jl' (nrm_le hf), s1.s⟩
  · rename_i hn
    cases ds' with
    | nil => trivial
    | cons d ds => cases ds with
      | nil => exact absurd rfl (hn d)
      | cons _ _ => trivial
theorem w_pass : GW sm cl pcl sg .pass := fun lv sp A S c p h s => by
  simp only [lkI] at h
  cases h
  simp only [exS, pS]
  exact ⟨_, _, rfl, rfl, s⟩
theorem w_wipe {ws : List Nat} : GW sm cl pcl sg (.wipe ws) := fun lv sp A S c p h s => by
  simp only [lkI] at h
  cases h
  simp only [exS, pS]
  exact ⟨_, _, rfl, rfl, s.wipe ws⟩
theorem gw_never : GW sm cl pcl sg .never := fun lv sp A S c p h s => by
  simp only [pS]; trivial
theorem map_gD {f : AS → AS} (h : f .un = .un) {A : List AS} {i : Nat} : (A.map f).getD i .un = f (A.getD i .un) := by
  rw [List.getD_eq_getElem?_getD, List.getD_eq_getElem?_getD, List.getElem?_map]
  cases A[i]? with
  | none => exact h.symm
  | some a => rfl
theorem map_gDS {f : Slot → Slot} (h : f .un = .un) {A : List Slot} {i : Nat} : (A.map f).getD i .un = f (A.getD i .un) := by
  rw [List.getD_eq_getElem?_getD, List.getD_eq_getElem?_getD, List.getElem?_map]
  cases A[i]? with
  | none => exact h.symm
  | some a => rfl
theorem Sim.lift {lv : Nat} {A : List AS} {c : C} {p : PC} (s : Sim lv A c p) : Sim (lv + 1) (A.map (liftA lv)) c p := by
  refine ⟨by simpa using s.la, s.lp, fun i => ?_, s.s⟩
  rw [map_gD rfl]
  have q := s.at_ i
  revert q
  generalize A.getD i .un = a
  generalize c.r.getD i .un = sl
  intro q
  cases a with
  | un => trivial
  | sh F => cases sl <;> exact q
  | ow F => cases sl <;> exact q
  | nt => cases sl <;> exact q
  | so F =>
    cases sl with
    | un => exact q
    | sh f d => exact ⟨Fl.le.jl' q.1, q.2⟩
    | ow f d => exact ⟨Fl.le.mono (Fl.le.jl.trans q.1) .rf, q.2⟩
theorem clamp_join {lv : Nat} {f g : Fl} (h : (f.join (.at (lv + 1))).le g) : ((f.clamp lv).join (.at lv)).le (g.cl lv) := by
  unfold Fl.clamp
  unfold Fl.le Fl.join Fl.at at h
  simp only at h
  split
  · unfold Fl.le Fl.join Fl.top Fl.at Fl.cl; simp only; omega
  · unfold Fl.le Fl.join Fl.at Fl.cl; simp only; omega
theorem clamp_top {lv : Nat} {f : Fl} (h : f.le Fl.top) : f.clamp lv = Fl.top := by
  obtain ⟨h1, h2⟩ := h
  unfold Fl.clamp
  unfold Fl.top big at *
  simp only at h1 h2
  rw [if_pos (by omega)]
theorem Sim.clm {lv : Nat} {A : List AS} {c : C} {p : PC} (s : Sim (lv + 1) A c p) : Sim lv (A.map (AS.cl lv)) (clampC lv c) p := by
  refine ⟨by simpa [clampC] using s.la, by simpa [clampC] using s.lp, fun i => ?_, s.s⟩
  show SlotS lv _ ((c.r.map (clampS lv)).getD i .un) _
  rw [map_gD rfl, map_gDS rfl]
  have q := s.at_ i
  revert q
  generalize A.getD i .un = a
  generalize c.r.getD i .un = sl
  intro q
  cases a with
  | un => trivial
  | sh F => cases sl with
    | un => exact q
    | sh f d => exact ⟨Fl.le.clamp q.1, q.2⟩
    | ow f d => exact q
  | ow F => cases sl with
    | un => exact q
    | sh f d => exact q
    | ow f d => exact ⟨Fl.le.clamp q.1, q.2⟩
  | nt => cases sl with
    | un => exact q
    | sh f d => exact ⟨by rw [clamp_top q.1]; exact .rf, q.2⟩
    | ow f d => exact q
  | so F =>
    cases sl with
    | un => exact q
    | sh f d => exact ⟨Fl.le.clamp q.1, q.2⟩
    | ow f d => exact ⟨clamp_join q.1, q.2⟩
theorem w_scope {body : List IS} (gb : GL sm cl pcl sg body) : GW sm cl pcl sg (.scope body) := fun lv sp A S c p h s => by
  simp only [lkI] at h
  obtain ⟨T, h1, k1⟩ := bnd h
  cases k1
  simp only [exS, pS]
  have q := gb _ _ _ _ _ _ h1 s.lift
  cases hp : pL pcl sg body p with
  | nx p' =>
    rw [hp] at q
    obtain ⟨c', A', e, e2, s'⟩ := q
    rw [e]
    refine ⟨_, A'.map (AS.cl lv), rfl, ?_, s'.clm⟩
    show T.nx.map _ = _
    rw [e2]; rfl
  | rt d p' => rw [hp] at q; obtain ⟨f, c', e, hf, hs'⟩ := q; rw [e]; exact ⟨_, _, rfl, Fl.le.clamp hf, hs'⟩
  | exc cls d p' => rw [hp] at q; obtain ⟨f, c', e, hf, hs'⟩ := q; rw [e]; exact ⟨_, _, rfl, Fl.le.clamp hf, hs'⟩
  | stuck => trivial
theorem Sim.spoil {lv : Nat} {A : List AS} {c : C} {p : PC} (s : Sim lv A c p) : Sim lv (A.map (AS.spoil lv)) { c with r := c.r.map (spoilS lv) } p := by
  refine ⟨by simpa using s.la, by simpa using s.lp, fun i => ?_, s.s⟩
  show SlotS lv _ ((c.r.map (spoilS lv)).getD i .un) _
  rw [map_gD rfl, map_gDS rfl]
  have q := s.at_ i
  revert q
  generalize A.getD i .un = a
  generalize c.r.getD i .un = sl
  intro q
  have nohit : ∀ {f F : Fl}, f.le F → ¬ lv ≤ F.hi → f.hit lv = false := fun {f F} h1 h2 => by
    unfold Fl.hit
    have : ¬ lv ≤ f.hi := fun z => h2 (Nat.le_trans z h1.2)
    simp [this]
  cases a with
  | un => trivial
  | sh F =>
    simp only [AS.spoil]
    split
    · trivial
    · rename_i hh
      have hh : ¬ lv ≤ F.hi := by simpa using hh
      cases sl with
      | un => exact q
      | sh f d => simp only [spoilS, nohit q.1 hh, Bool.false_eq_true, if_false]; exact q
      | ow f d => exact q.elim
  | ow F =>
    simp only [AS.spoil]
    split
    · trivial
    · rename_i hh
      have hh : ¬ lv ≤ F.hi := by simpa using hh
      cases sl with
      | un => exact q
      | sh f d => exact q.elim
      | ow f d => simp only [spoilS, nohit q.1 hh, Bool.false_eq_true, if_false]; exact q
  | nt =>
    cases sl with
    | un => exact q
    | ow f d => exact q.elim
    | sh f d =>
      have : f.hit lv = false := by
        obtain ⟨⟨q1, q2⟩, _⟩ := q
        unfold Fl.hit
        unfold Fl.top big at *
        simp only [Bool.and_eq_false_iff, decide_eq_false_iff_not]
        simp only at q1 q2
        omega
      simp only [AS.spoil, spoilS, this, Bool.false_eq_true, if_false]; exact q
  | so F =>
    simp only [AS.spoil]
    split
    · trivial
    · rename_i hh
      have hh : ¬ lv ≤ F.hi := by simpa using hh
      cases sl with
      | un => exact q
      | sh f d => simp only [spoilS, nohit q.1 hh, Bool.false_eq_true, if_false]; exact q
      | ow f d => simp only [spoilS, nohit (Fl.le.jl.trans q.1) hh, Bool.false_eq_true, if_false]; exact q
theorem w_spoil {e : IE} (ge : GE sm cl pcl sg e) : GW sm cl pcl sg (.spoil e) := fun lv sp A S c p h s => by
  cases sp with
  | false => simp [lkI] at h
  | true =>
    simp only [lkI, if_true] at h
    obtain ⟨⟨A1, R, x⟩, h1, k1⟩ := bnd h
    clear h
    dsimp only at h1 k1
    split at k1 <;> cases k1
    rename_i hlo
    simp only [Bool.and_eq_true, decide_eq_true_eq] at hlo
    simp only [exS, pS, if_true]
    refine SimO.w (toZS (ge _ _ _ _ _ _ _ h1 s)) .rf fun fd c1 d p1 ⟨e1, hf, s1, _, _⟩ => ?_
    obtain ⟨f, d'⟩ := fd
    cases e1
    have hl : decide (lv ≤ f.lo) = true := by
      have : lv ≤ f.lo := by have := hf.1; simp only at this; omega
      simpa using this
    dsimp only
    rw [hl, Bool.true_and]
    split
    · exact ⟨_, _, rfl, rfl, s1.spoil⟩
    · trivial
theorem gl_nil : GL sm cl pcl sg [] := fun lv sp A S c p h s => by
  simp only [lkL] at h
  cases h
  simp only [exL, pL]
  exact ⟨_, _, rfl, rfl, s⟩
theorem gl_cons {i : IS} {is : List IS} (gi : GW sm cl pcl sg i) (gl : GL sm cl pcl sg is) : GL sm cl pcl sg (i :: is) := fun lv sp A S c p h s => by
  simp only [lkL] at h
  obtain ⟨T, h1, k1⟩ := bnd h
  clear h
  simp only [exL, pL]
  have q := gi _ _ _ _ _ _ h1 s
  cases hn : T.nx with
  | none =>
    rw [hn] at k1
    cases k1
    cases hp : pS pcl sg i p with
    | nx p' =>
      rw [hp] at q
      obtain ⟨c', A', e, e2, s'⟩ := q
      rw [hn] at e2; cases e2
    | rt d p' => rw [hp] at q; obtain ⟨f, c', e, hf, hs'⟩ := q; rw [e]; exact ⟨_, _, rfl, hf, hs'⟩
    | exc cls d p' => rw [hp] at q; obtain ⟨f, c', e, hf, hs'⟩ := q; rw [e]; exact ⟨_, _, rfl, hf, hs'⟩
    | stuck => trivial
  | some A1 =>
    rw [hn] at k1
    obtain ⟨U, h2, k2⟩ := bnd k1
    cases k2
    cases hp : pS pcl sg i p with
    | nx p' =>
      rw [hp] at q
      obtain ⟨c', A', e, e2, s'⟩ := q
      rw [hn] at e2; cases e2
      rw [e]
      exact (gl _ _ _ _ _ _ h2 s').mono (fun _ h => h) .jr .jr (fun z => by simp only [Bool.and_eq_true] at z; exact z.2)
    | rt d p' => rw [hp] at q; obtain ⟨f, c', e, hf, hs', hi⟩ := q; rw [e]; exact ⟨_, _, rfl, Fl.le.jl' hf, hs', fun z => by simp only [Bool.and_eq_true] at z; exact hi z.1⟩
    | exc cls d p' => rw [hp] at q; obtain ⟨f, c', e, hf, hs'⟩ := q; rw [e]; exact ⟨_, _, rfl, Fl.le.jl' hf, hs'⟩
    | stuck => trivial
mutual
theorem wAll (hc : ClS sm cl pcl) : ∀ i : IS, GW sm cl pcl sg i
  | .expr e => w_expr (gAll hc e)
  | .asg i own e => w_asg (gAll hc e)
  | .asgT ts e => w_asgT (gAll hc e)
  | .par ts es => w_par (gfAll hc es)
  | .parO ts es => w_parO fun oe _ => gAll hc oe.2
  | .setIx i ix e => w_setIx (gAll hc ix) (gAll hc e)
  | .ret e => w_ret (gAll hc e)
  | .retN => w_retN
  | .ite t a b => w_ite (gAll hc t) (lAll hc a) (lAll hc b)
  | .for ts one it body => w_for (giAll hc it) (lAll hc body)
  | .while t body => w_while (gAll hc t) (lAll hc body)
  | .raise x as => w_raise (gfAll hc as)
  | .pass => w_pass
  | .wipe ws => w_wipe
  | .scope body => w_scope (lAll hc body)
  | .spoil e => w_spoil (gAll hc e)
  | .never => gw_never
theorem lAll (hc : ClS sm cl pcl) : ∀ is : List IS, GL sm cl pcl sg is
  | [] => gl_nil
  | i :: is => gl_cons (wAll hc i) (lAll hc is)
end
end
/-! ### programs -/
theorem lookup_mem {α : Type} {f : Str} {v : α} : ∀ {P : List (Str × α)}, List.lookup f P = some v → (f, v) ∈ P
  | (g, w) :: P, h => by
    simp only [List.lookup] at h
    split at h
    · rename_i e
      cases h
      have : f = g := by simpa using e
      rw [this]; exact List.mem_cons_self
    · exact List.mem_cons_of_mem _ (lookup_mem h)
theorem startA_len (fd : Fd) (as : List D) (h : as.length = fd.ps.length) : (startA fd).length = (startR fd as).length ∧ (startP fd as).length = (startR fd as).length := by
  unfold startA startR startP
  simp [h]
theorem sim_start {fd : Fd} {as : List D} {s : List Stm} (h : as.length = fd.ps.length) : Sim 1 (startA fd) ⟨startR fd as, s⟩ ⟨startP fd as, s⟩ := by
  refine ⟨(startA_len fd as h).1, (startA_len fd as h).2, fun i => ?_, rfl⟩
  show SlotS 1 ((startA fd).getD i .un) ((startR fd as).getD i .un) ((startP fd as).getD i none)
  by_cases hi : i < as.length
  · have e1 : (startA fd)[i]? = some (.sh ⟨0, 0⟩) := by
      unfold startA
      rw [List.getElem?_append_left (by simp; omega), List.getElem?_map, List.getElem?_eq_getElem (by omega : i < fd.ps.length)]; rfl
    have e2 : (startR fd as)[i]? = some (.sh (nrm as[i] ⟨0, 0⟩) as[i]) := by
      unfold startR
      rw [List.getElem?_append_left (by simpa using hi), List.getElem?_map, List.getElem?_eq_getElem hi]; rfl
    have e3 : (startP fd as)[i]? = some (some as[i]) := by
      unfold startP
      rw [List.getElem?_append_left (by simpa using hi), List.getElem?_map, List.getElem?_eq_getElem hi]; rfl
    rw [gD e1, gD e2, gD e3]
    exact ⟨nrm_le .rf, rfl⟩
  · have e1 : (startA fd).getD i .un = .un := by
      unfold startA
      rw [List.getD_eq_getElem?_getD, List.getElem?_append_right (by simp; omega), List.getElem?_replicate]
      split <;> rfl
    rw [e1]; trivial
theorem prim_sim {T : Tb} (f : Str) (as : List D) (s : List Stm) : match pPrim f as s with
  | .ok d s' => ∃ fl, prim f as s = some (.inl (fl, d, s')) ∧ fl.le (smOf T f).1 ∧ ((f = nDraw → isInt d))
  | .exc x d s' => ∃ fl, prim f as s = some (.inr (⟨x, fl, d⟩, s')) ∧ fl.le (smOf T f).2.1
  | .stuck => True := by
  cases hp : pPrim f as s with
  | stuck => trivial
  | exc x d s' =>
    exfalso
    unfold pPrim at hp
    repeat' split at hp
    all_goals cases hp
  | ok d s' =>
    refine ⟨Fl.top, ?_, .top, fun hfd => ?_⟩
    rotate_left
    · unfold pPrim at hp
      rw [if_pos hfd] at hp
      split at hp
      · split at hp
        · split at hp
          · cases hp; exact ⟨_, rfl⟩
          · cases hp
        · cases hp
      · cases hp
    unfold pPrim at hp
    unfold prim
    split at hp
    · rename_i h1
      rw [if_pos h1]
      split at hp
      · split at hp
        · rename_i hs
          split at hp
          · rename_i hd
            cases hp
            simp only [hs, hd, Option.map]
          · cases hp
        · cases hp
      · cases hp
    · rename_i h1
      rw [if_neg h1]
      split at hp
      · rename_i h2
        rw [if_pos h2]
        split at hp
        · split at hp
          · rename_i hs
            cases hp
            simp only [hs, Option.map]
          · cases hp
        · cases hp
      · cases hp
/-- a look that is passed: what the plain evaluator tells, the other one tells -/
theorem call_sim {P : Pg} {T : Tb} (h0 : lkPg P T = true) : ∀ n, ClS (smOf T) (callF P n) (callP P n)
  | 0 => fun f as s => trivial
  | n + 1 => fun f as s => by
    have ih := call_sim h0 n
    unfold lkPg at h0
    simp only [Bool.and_eq_true, Bool.not_eq_true', Option.isNone_iff_eq_none] at h0
    obtain ⟨⟨hd0, hs0⟩, h⟩ := h0
    simp only [callP, callF]
    cases hl : P.lookup f with
    | none =>
      dsimp only
      have q := prim_sim (T := T) f as s
      cases hp : pPrim f as s with
      | stuck => trivial
      | exc x d s' => rw [hp] at q; exact q
      | ok d s' =>
        rw [hp] at q
        obtain ⟨fl, q1, q2, q3⟩ := q
        refine ⟨fl, q1, q2, fun z => ?_⟩
        by_cases hd : f = nDraw
        · exact q3 hd
        · by_cases hs : f = nStream
          · subst hs; rw [hs0] at z; cases z
          · unfold pPrim at hp
            rw [if_neg hd, if_neg hs] at hp
            cases hp
    | some fd =>
      dsimp only
      by_cases hn : as.length = fd.ps.length
      case neg => rw [if_neg hn]; trivial
      rw [if_pos hn, if_pos hn]
      have hm := List.all_eq_true.mp h _ (lookup_mem hl)
      dsimp only at hm
      split at hm
      · rename_i r x i hr
        rw [Bool.and_eq_true, Bool.and_eq_true] at hm
        unfold lkFd at hr
        obtain ⟨S, hS, e⟩ := opt_map hr
        cases e
        have q := lAll (sg := sgOf P) ih fd.body _ _ _ _ _ _ hS (sim_start (s := s) hn)
        cases hp : pL (callP P n) (sgOf P) fd.body ⟨startP fd as, s⟩ with
        | nx p' =>
          rw [hp] at q
          obtain ⟨c', A', e, e2, s'⟩ := q
          rw [e]
          refine ⟨Fl.top, by show some _ = _; rw [s'.s], .top, fun z => ?_⟩
          rw [z, e2] at hm
          simp at hm
        | rt d p' =>
          rw [hp] at q; obtain ⟨f, c', e, hf, hs', hi⟩ := q; rw [e]
          refine ⟨f, by show some _ = _; rw [hs'], hf.trans (Fl.le_of hm.1.1), fun z => hi ?_⟩
          have := hm.2
          rw [z] at this
          simp only [Bool.not_true, Bool.or_false, Bool.and_eq_true] at this
          exact this.1
        | exc cls d p' =>
          rw [hp] at q; obtain ⟨f, c', e, hf, hs'⟩ := q; rw [e]
          exact ⟨f, by show some _ = _; rw [hs'], hf.trans (Fl.le_of hm.1.2)⟩
        | stuck => trivial
      · cases hm
end Sd

/-! Px0: the plain evaluator's equations, loops and blocks kept whole. -/
namespace Sd
open PySem PySem.Spec PyProof.Rows L2
/-- a block, kept shut -/
@[irreducible] def qL (cl : PCaller) (sg : Sig) (is : List IS) (c : PC) : PF := pL cl sg is c
theorem qL_eq {cl : PCaller} {sg : Sig} {is : List IS} {c : PC} : qL cl sg is c = pL cl sg is c := by unfold qL; rfl
section
variable (cl : PCaller) (sg : Sig)
def pfo (ts : List Nat) (one : Bool) (body : List IS) (xs : List D) (c : PC) : PF := pfGo (fun x c => (pOpt (setPg ts one x c.e) c).w fun r c => qL cl sg body { c with e := r }) xs c
def pwh (t : IE) (body : List IS) (n : Nat) (c : PC) : PF := pwGo (fun c => pT (pE cl sg t c)) (fun c => qL cl sg body c) n c
def plT (e : IE) (ts : List Nat) (one : Bool) (cs : List IE) (x : D) (c : PC) : PO (Option D) := (pOpt (setPg ts one x c.e) c).bind fun r c => (pCs cl sg cs { c with e := r }).bind fun k c => if k then (pE cl sg e c).bind fun d c => .ok (some d) c else .ok none c
def plc (e : IE) (ts : List Nat) (one : Bool) (cs : List IE) (xs : List D) (c0 : PC) : PO D := if xs.length ≤ SZ then (pcGo ts (plT cl sg e ts one cs) xs c0).noX.bind fun ds c => .ok (.lst ds) { c with e := backP c0.e c.e ts }
    else .stuck
end
section
variable {cl : PCaller} {sg : Sig}
theorem qL_nil {c : PC} : qL cl sg [] c = .nx c := by simp only [qL_eq, pL]
theorem qL_cons {i : IS} {is : List IS} {c : PC} : qL cl sg (i :: is) c = (pS cl sg i c).then fun c => qL cl sg is c := by simp only [qL_eq, pL]
theorem qE_non {c : PC} : pE cl sg (.non) c = .ok .non c := by first | (simp only [pE, plc, pfo, pwh, qL_eq]; done) | (simp only [pE, plc, pfo, pwh, qL_eq]; rfl)
theorem qE_bl {c : PC} : pE cl sg (.bl b) c = .ok (.bl b) c := by first | (simp only [pE, plc, pfo, pwh, qL_eq]; done) | (simp only [pE, plc, pfo, pwh, qL_eq]; rfl)
theorem qE_int {c : PC} : pE cl sg (.int i) c = .ok (.int i) c := by first | (simp only [pE, plc, pfo, pwh, qL_eq]; done) | (simp only [pE, plc, pfo, pwh, qL_eq]; rfl)
theorem qE_str {c : PC} : pE cl sg (.str x) c = .ok (.str x) c := by first | (simp only [pE, plc, pfo, pwh, qL_eq]; done) | (simp only [pE, plc, pfo, pwh, qL_eq]; rfl)
theorem qE_var {c : PC} : pE cl sg (.var i) c = match c.e[i]? with
    | some (some d) => .ok d c
    | _ => .stuck := by first | (simp only [pE, plc, pfo, pwh, qL_eq]; done) | (simp only [pE, plc, pfo, pwh, qL_eq]; rfl)
theorem qE_op2 {c : PC} : pE cl sg (.op2 o a b) c = (pE cl sg a c).bind fun x c => (pE cl sg b c).bind fun y c => pOk (bin o x y) c := by first | (simp only [pE, plc, pfo, pwh, qL_eq]; done) | (simp only [pE, plc, pfo, pwh, qL_eq]; rfl)
theorem qE_neg {c : PC} : pE cl sg (.neg a) c = (pE cl sg a c).bind fun x c => match x with
    | .int i => .ok (.int (-i)) c
    | _ => .stuck := by first | (simp only [pE, plc, pfo, pwh, qL_eq]; done) | (simp only [pE, plc, pfo, pwh, qL_eq]; rfl)
theorem qE_cmp {c : PC} : pE cl sg (.cmp o a b) c = (pE cl sg a c).bind fun x c => (pE cl sg b c).bind fun y c => (pOpt (cmpD o x y) c).bind fun k c => .ok (.bl k) c := by first | (simp only [pE, plc, pfo, pwh, qL_eq]; done) | (simp only [pE, plc, pfo, pwh, qL_eq]; rfl)
theorem qE_isN {c : PC} : pE cl sg (.isN a) c = (pE cl sg a c).bind fun x c => match x with
    | .non => .ok (.bl true) c
    | _ => .ok (.bl false) c := by first | (simp only [pE, plc, pfo, pwh, qL_eq]; done) | (simp only [pE, plc, pfo, pwh, qL_eq]; rfl)
theorem qE_notN {c : PC} : pE cl sg (.notN a) c = (pE cl sg a c).bind fun x c => match x with
    | .non => .ok (.bl false) c
    | _ => .ok (.bl true) c := by first | (simp only [pE, plc, pfo, pwh, qL_eq]; done) | (simp only [pE, plc, pfo, pwh, qL_eq]; rfl)
theorem qE_chn {c : PC} : pE cl sg (.chn o o' a b d) c = (pE cl sg a c).bind fun x c => (pE cl sg b c).bind fun y c => (pOpt (cmpD o x y) c).bind fun k c =>
      if k then (pE cl sg d c).bind fun z c => (pOpt (cmpD o' y z) c).bind fun k c => .ok (.bl k) c
      else .ok (.bl false) c := by first | (simp only [pE, plc, pfo, pwh, qL_eq]; done) | (simp only [pE, plc, pfo, pwh, qL_eq]; rfl)
theorem qE_and {c : PC} : pE cl sg (.and a b) c = (pE cl sg a c).bind fun x c => match x with
    | .bl true => pE cl sg b c
    | .bl false => .ok (.bl false) c
    | _ => .stuck := by first | (simp only [pE, plc, pfo, pwh, qL_eq]; done) | (simp only [pE, plc, pfo, pwh, qL_eq]; rfl)
theorem qE_or {c : PC} : pE cl sg (.or a b) c = (pE cl sg a c).bind fun x c => match x with
    | .bl false => pE cl sg b c
    | .bl true => .ok (.bl true) c
    | _ => .stuck := by first | (simp only [pE, plc, pfo, pwh, qL_eq]; done) | (simp only [pE, plc, pfo, pwh, qL_eq]; rfl)
theorem qE_not {c : PC} : pE cl sg (.not a) c = (pT (pE cl sg a c)).bind fun k c => .ok (.bl (!k)) c := by first | (simp only [pE, plc, pfo, pwh, qL_eq]; done) | (simp only [pE, plc, pfo, pwh, qL_eq]; rfl)
theorem qE_ite {c : PC} : pE cl sg (.ite t a b) c = (pT (pE cl sg t c)).bind fun k c => if k then pE cl sg a c else pE cl sg b c := by first | (simp only [pE, plc, pfo, pwh, qL_eq]; done) | (simp only [pE, plc, pfo, pwh, qL_eq]; rfl)
theorem qE_lst {c : PC} : pE cl sg (.lst xs) c = (pSt cl sg xs c).bind fun ds c => if ds.length ≤ SZ then .ok (.lst ds) c else .stuck := by first | (simp only [pE, plc, pfo, pwh, qL_eq]; done) | (simp only [pE, plc, pfo, pwh, qL_eq]; rfl)
theorem qE_tup {c : PC} : pE cl sg (.tup xs) c = (pA cl sg xs c).bind fun ds c => if ds.length ≤ SZ then .ok (.tup ds) c else .stuck := by first | (simp only [pE, plc, pfo, pwh, qL_eq]; done) | (simp only [pE, plc, pfo, pwh, qL_eq]; rfl)
theorem qE_star {c : PC} : pE cl sg (.star u1) c = .stuck := by first | (simp only [pE, plc, pfo, pwh, qL_eq]; done) | (simp only [pE, plc, pfo, pwh, qL_eq]; rfl)
theorem qE_ix {c : PC} : pE cl sg (.ix a i) c = (pE cl sg a c).bind fun x c => (pE cl sg i c).bind fun y c => pOpt (ixD x y) c := by first | (simp only [pE, plc, pfo, pwh, qL_eq]; done) | (simp only [pE, plc, pfo, pwh, qL_eq]; rfl)
theorem qE_slc {c : PC} {lo hi : List IE} : pE cl sg (.slc a lo hi) c = (pE cl sg a c).bind fun x c => (pP cl sg lo c).bind fun l c => (pP cl sg hi c).bind fun h c =>
    match x with
    | .lst xs => .ok (.lst (cutD xs l h)) c
    | .tup xs => .ok (.tup (cutD xs l h)) c
    | _ => .stuck := by first | (simp only [pE, plc, pfo, pwh, qL_eq]; done) | (simp only [pE, plc, pfo, pwh, qL_eq]; rfl)
theorem qE_rev {c : PC} : pE cl sg (.rev a) c = (pE cl sg a c).bind fun x c => match x with
    | .lst xs => .ok (.lst xs.reverse) c
    | _ => .stuck := by first | (simp only [pE, plc, pfo, pwh, qL_eq]; done) | (simp only [pE, plc, pfo, pwh, qL_eq]; rfl)
theorem qE_call {c : PC} : pE cl sg (.call f as ks kas) c = (pA cl sg as c).bind fun ds c => (pA cl sg kas c).bind fun dk c =>
    match byName (sg f) ds ks dk with
    | some args => match cl f args c.s with
      | .ok d s => .ok d { c with s := s }
      | .exc x d s => .exc x d { c with s := s }
      | .stuck => .stuck
    | none => .stuck := by first | (simp only [pE, plc, pfo, pwh, qL_eq]; done) | (simp only [pE, plc, pfo, pwh, qL_eq]; rfl)
theorem qE_blt {c : PC} : pE cl sg (.blt b as) c = (pA cl sg as c).bind fun ds c => pOk (bltD b ds) c := by first | (simp only [pE, plc, pfo, pwh, qL_eq]; done) | (simp only [pE, plc, pfo, pwh, qL_eq]; rfl)
theorem qE_isa {c : PC} : pE cl sg (.isa a ts) c = (pE cl sg a c).bind fun x c => match x with
    | .stm _ => .stuck
    | .obj _ => .stuck
    | d => .ok (.bl (ts.any fun t => isTy t d)) c := by first | (simp only [pE, plc, pfo, pwh, qL_eq]; done) | (simp only [pE, plc, pfo, pwh, qL_eq]; rfl)
theorem qE_mth {c : PC} : pE cl sg (.mth m i as) c = (pA cl sg as c).bind fun ds c => match c.e[i]? with
    | some (some (.lst xs)) => match mthD m xs ds with
      | some (d, ys) => .ok d { c with e := c.e.set i (some (.lst ys)) }
      | none => .stuck
    | _ => .stuck := by first | (simp only [pE, plc, pfo, pwh, qL_eq]; done) | (simp only [pE, plc, pfo, pwh, qL_eq]; rfl)
theorem qE_lc {c : PC} : pE cl sg (.lc e ts one it cs) c = (pIt cl sg it c).bind fun xs c0 => plc cl sg e ts one cs xs c0 := by first | (simp only [pE, plc, pfo, pwh, qL_eq]; done) | (simp only [pE, plc, pfo, pwh, qL_eq]; rfl)
theorem qE_lrng {c : PC} : pE cl sg (.lrng as) c = (pA cl sg as c).bind fun ds c => (pOpt (lrngD ds) c).bind fun xs c => .ok (.lst xs) c := by first | (simp only [pE, plc, pfo, pwh, qL_eq]; done) | (simp only [pE, plc, pfo, pwh, qL_eq]; rfl)
theorem qE_never {c : PC} : pE cl sg (.never) c = .stuck := by first | (simp only [pE, plc, pfo, pwh, qL_eq]; done) | (simp only [pE, plc, pfo, pwh, qL_eq]; rfl)
theorem qCs_nil {c : PC} : pCs cl sg [] c = .ok true c := by first | (simp only [pCs, plc, pfo, pwh, qL_eq]; done) | (simp only [pCs, plc, pfo, pwh, qL_eq]; rfl)
theorem qCs_cons {c : PC} : pCs cl sg (e :: es) c = (pT (pE cl sg e c)).bind fun k c => if k then pCs cl sg es c else .ok false c := by first | (simp only [pCs, plc, pfo, pwh, qL_eq]; done) | (simp only [pCs, plc, pfo, pwh, qL_eq]; rfl)
theorem qA_nil {c : PC} : pA cl sg [] c = .ok [] c := by first | (simp only [pA, plc, pfo, pwh, qL_eq]; done) | (simp only [pA, plc, pfo, pwh, qL_eq]; rfl)
theorem qA_cons {c : PC} : pA cl sg (e :: es) c = (pE cl sg e c).bind fun d c => (pA cl sg es c).bind fun ds c => .ok (d :: ds) c := by first | (simp only [pA, plc, pfo, pwh, qL_eq]; done) | (simp only [pA, plc, pfo, pwh, qL_eq]; rfl)
theorem qSt_nil {c : PC} : pSt cl sg [] c = .ok [] c := by first | (simp only [pSt, plc, pfo, pwh, qL_eq]; done) | (simp only [pSt, plc, pfo, pwh, qL_eq]; rfl)
theorem qSt_star {c : PC} : pSt cl sg (.star e :: es) c = (pE cl sg e c).bind fun d c => match seqOf d with
      | some xs => (pSt cl sg es c).bind fun ds c => .ok (xs ++ ds) c
      | none => .stuck := by first | (simp only [pSt, plc, pfo, pwh, qL_eq]; done) | (simp only [pSt, plc, pfo, pwh, qL_eq]; rfl)
theorem qP_nil {c : PC} : pP cl sg [] c = .ok none c := by first | (simp only [pP, plc, pfo, pwh, qL_eq]; done) | (simp only [pP, plc, pfo, pwh, qL_eq]; rfl)
theorem qP_cons {c : PC} : pP cl sg (e :: u1) c = (pE cl sg e c).bind fun d c => match d with
    | .int i => .ok (some i) c
    | _ => .stuck := by first | (simp only [pP, plc, pfo, pwh, qL_eq]; done) | (simp only [pP, plc, pfo, pwh, qL_eq]; rfl)
theorem qIt_rng {c : PC} : pIt cl sg (.rng as) c = (pA cl sg as c).bind fun ds c => pOpt (rngD ds) c := by first | (simp only [pIt, plc, pfo, pwh, qL_eq]; done) | (simp only [pIt, plc, pfo, pwh, qL_eq]; rfl)
theorem qIt_zip {c : PC} : pIt cl sg (.zip a b) c = (pE cl sg a c).bind fun x c => (pE cl sg b c).bind fun y c =>
    match seqOf x, seqOf y with
    | some xs, some ys => .ok (zipD xs ys) c
    | _, _ => .stuck := by first | (simp only [pIt, plc, pfo, pwh, qL_eq]; done) | (simp only [pIt, plc, pfo, pwh, qL_eq]; rfl)
theorem qIt_enm {c : PC} {st : List IE} : pIt cl sg (.enm a st) c = (pE cl sg a c).bind fun x c => (pP cl sg st c).bind fun k c =>
    if rOk (k.getD 0) then match seqOf x with
    | some xs => .ok (enmD (k.getD 0) xs) c
    | none => .stuck
    else .stuck := by first | (simp only [pIt, plc, pfo, pwh, qL_eq]; done) | (simp only [pIt, plc, pfo, pwh, qL_eq]; rfl)
theorem qIt_e {c : PC} : pIt cl sg (.e a) c = (pE cl sg a c).bind fun d c => pOpt (seqOf d) c := by first | (simp only [pIt, plc, pfo, pwh, qL_eq]; done) | (simp only [pIt, plc, pfo, pwh, qL_eq]; rfl)
theorem qIt_itm {c : PC} : pIt cl sg (.itm u1) c = .stuck := by first | (simp only [pIt, plc, pfo, pwh, qL_eq]; done) | (simp only [pIt, plc, pfo, pwh, qL_eq]; rfl)
theorem qN_nil {c : PC} : pN cl sg [] c = .ok [] c := by first | (simp only [pN, plc, pfo, pwh, qL_eq]; done) | (simp only [pN, plc, pfo, pwh, qL_eq]; rfl)
theorem qN_cons {c : PC} : pN cl sg ((u1, e) :: es) c = (pE cl sg e c).bind fun d c => (pN cl sg es c).bind fun ds c => .ok (d :: ds) c := by first | (simp only [pN, plc, pfo, pwh, qL_eq]; done) | (simp only [pN, plc, pfo, pwh, qL_eq]; rfl)
theorem qS_expr {c : PC} : pS cl sg (.expr e) c = (pE cl sg e c).w fun _ c => .nx c := by first | (simp only [pS, plc, pfo, pwh, qL_eq]; done) | (simp only [pS, plc, pfo, pwh, qL_eq]; rfl)
theorem qS_asg {c : PC} : pS cl sg (.asg i u1 e) c = (pE cl sg e c).w fun d c => .nx { c with e := c.e.set i (some d) } := by first | (simp only [pS, plc, pfo, pwh, qL_eq]; done) | (simp only [pS, plc, pfo, pwh, qL_eq]; rfl)
theorem qS_asgT {c : PC} : pS cl sg (.asgT ts e) c = (pE cl sg e c).w fun d c => (pOpt ((seqOf d).bind fun xs => setPs ts xs c.e) c).w fun r c => .nx { c with e := r } := by first | (simp only [pS, plc, pfo, pwh, qL_eq]; done) | (simp only [pS, plc, pfo, pwh, qL_eq]; rfl)
theorem qS_par {c : PC} : pS cl sg (.par ts es) c = (pA cl sg es c).w fun ds c => (pOpt (setPs ts ds c.e) c).w fun r c => .nx { c with e := r } := by first | (simp only [pS, plc, pfo, pwh, qL_eq]; done) | (simp only [pS, plc, pfo, pwh, qL_eq]; rfl)
theorem qS_parO {c : PC} : pS cl sg (.parO ts es) c = (pN cl sg es c).w fun ds c => (pOpt (setPs ts ds c.e) c).w fun r c => .nx { c with e := r } := by first | (simp only [pS, plc, pfo, pwh, qL_eq]; done) | (simp only [pS, plc, pfo, pwh, qL_eq]; rfl)
theorem qS_setIx {c : PC} : pS cl sg (.setIx i ix e) c = (pE cl sg e c).w fun d c => (pE cl sg ix c).w fun k c =>
    match c.e[i]?, k with
    | some (some (.lst xs)), .int k => match ixN xs.length k with
      | some j => .nx { c with e := c.e.set i (some (.lst (xs.set j d))) }
      | none => .stuck
    | _, _ => .stuck := by first | (simp only [pS, plc, pfo, pwh, qL_eq]; done) | (simp only [pS, plc, pfo, pwh, qL_eq]; rfl)
theorem qS_ret {c : PC} : pS cl sg (.ret e) c = (pE cl sg e c).w fun d c => .rt d c := by first | (simp only [pS, plc, pfo, pwh, qL_eq]; done) | (simp only [pS, plc, pfo, pwh, qL_eq]; rfl)
theorem qS_retN {c : PC} : pS cl sg (.retN) c = .rt .non c := by first | (simp only [pS, plc, pfo, pwh, qL_eq]; done) | (simp only [pS, plc, pfo, pwh, qL_eq]; rfl)
theorem qS_ite {c : PC} : pS cl sg (.ite t a b) c = (pT (pE cl sg t c)).w fun k c => if k then qL cl sg a c else qL cl sg b c := by first | (simp only [pS, plc, pfo, pwh, qL_eq]; done) | (simp only [pS, plc, pfo, pwh, qL_eq]; rfl)
theorem qS_for {c : PC} : pS cl sg (.for ts one it body) c = (pIt cl sg it c).w fun xs c => pfo cl sg ts one body xs c := by first | (simp only [pS, plc, pfo, pwh, qL_eq]; done) | (simp only [pS, plc, pfo, pwh, qL_eq]; rfl)
theorem qS_while {c : PC} : pS cl sg (.while t body) c = pwh cl sg t body fuel c := by first | (simp only [pS, plc, pfo, pwh, qL_eq]; done) | (simp only [pS, plc, pfo, pwh, qL_eq]; rfl)
theorem qS_raise {c : PC} : pS cl sg (.raise x as) c = (pA cl sg as c).w fun ds c => match ds with
    | [d] => .exc x d c
    | _ => .stuck := by first | (simp only [pS, plc, pfo, pwh, qL_eq]; done) | (simp only [pS, plc, pfo, pwh, qL_eq]; rfl)
theorem qS_pass {c : PC} : pS cl sg (.pass) c = .nx c := by first | (simp only [pS, plc, pfo, pwh, qL_eq]; done) | (simp only [pS, plc, pfo, pwh, qL_eq]; rfl)
theorem qS_wipe {c : PC} : pS cl sg (.wipe ws) c = .nx { c with e := wipeP c.e ws } := by first | (simp only [pS, plc, pfo, pwh, qL_eq]; done) | (simp only [pS, plc, pfo, pwh, qL_eq]; rfl)
theorem qS_scope {c : PC} : pS cl sg (.scope body) c = qL cl sg body c := by first | (simp only [pS, plc, pfo, pwh, qL_eq]; done) | (simp only [pS, plc, pfo, pwh, qL_eq]; rfl)
theorem qS_spoil {c : PC} : pS cl sg (.spoil e) c = (pE cl sg e c).w fun d c => if spOk 20 d && decide (2 * nodes d ≤ SZ) then .nx c else .stuck := by first | (simp only [pS, plc, pfo, pwh, qL_eq]; done) | (simp only [pS, plc, pfo, pwh, qL_eq]; rfl)
theorem qS_never {c : PC} : pS cl sg (.never) c = .stuck := by first | (simp only [pS, plc, pfo, pwh, qL_eq]; done) | (simp only [pS, plc, pfo, pwh, qL_eq]; rfl)
theorem qSt_cons {e : IE} {es : List IE} {c : PC} (h : ∀ a, e ≠ .star a) : pSt cl sg (e :: es) c = (pE cl sg e c).bind fun d c => (pSt cl sg es c).bind fun ds c => .ok (d :: ds) c := by
  cases e <;> first | exact absurd rfl (h _) | (simp only [pSt]; done) | (simp only [pSt]; rfl)
end
end Sd

/-! Px1: how outcomes are put together; sequences in any form. -/
namespace Sd
open PySem PySem.Spec PyProof.Rows L2
/-! ### outcomes -/
theorem pbind_ok {α β : Type} {a : α} {c : PC} {f : α → PC → PO β} : (PO.ok a c).bind f = f a c := rfl
theorem pbind_exc {α β : Type} {x : Str} {d : D} {c : PC} {f : α → PC → PO β} : (PO.exc x d c : PO α).bind f = .exc x d c := rfl
theorem pbind_stuck {α β : Type} {f : α → PC → PO β} : (PO.stuck : PO α).bind f = .stuck := rfl
theorem pw_ok {α : Type} {a : α} {c : PC} {f : α → PC → PF} : (PO.ok a c).w f = f a c := rfl
theorem pw_exc {α : Type} {x : Str} {d : D} {c : PC} {f : α → PC → PF} : (PO.exc x d c : PO α).w f = .exc x d c := rfl
theorem pw_stuck {α : Type} {f : α → PC → PF} : (PO.stuck : PO α).w f = .stuck := rfl
theorem pthen_nx {c : PC} {f : PC → PF} : (PF.nx c).then f = f c := rfl
theorem pthen_rt {d : D} {c : PC} {f : PC → PF} : (PF.rt d c).then f = .rt d c := rfl
theorem pthen_exc {x : Str} {d : D} {c : PC} {f : PC → PF} : (PF.exc x d c).then f = .exc x d c := rfl
theorem pthen_stuck {f : PC → PF} : PF.stuck.then f = .stuck := rfl
theorem pOpt_some {α : Type} {a : α} {c : PC} : pOpt (some a) c = .ok a c := rfl
theorem pOk_some {b : Bool} {d : D} {c : PC} : pOk (some (b, d)) c = .ok d c := rfl
theorem endP_nx {c : PC} : endP (.nx c) = .ok .non c.s := rfl
theorem endP_rt {d : D} {c : PC} : endP (.rt d c) = .ok d c.s := rfl
theorem endP_exc {x : Str} {d : D} {c : PC} : endP (.exc x d c) = .exc x d c.s := rfl
theorem endP_stuck : endP .stuck = .stuck := rfl
/-! tests that are open -/
section
variable {k : Prop} [Decidable k]
theorem pbind_ite {α β : Type} {x y : PO α} {f : α → PC → PO β} : (if k then x else y).bind f = if k then x.bind f else y.bind f := by split <;> rfl
theorem pw_ite {α : Type} {x y : PO α} {f : α → PC → PF} : (if k then x else y).w f = if k then x.w f else y.w f := by split <;> rfl
theorem pthen_ite {x y : PF} {f : PC → PF} : (if k then x else y).then f = if k then x.then f else y.then f := by split <;> rfl
theorem endP_ite {x y : PF} : endP (if k then x else y) = if k then endP x else endP y := by split <;> rfl
end
theorem ite_and {k l : Bool} {c : PC} : (if k = true then PO.ok (D.bl l) c else PO.ok (D.bl false) c) = PO.ok (D.bl (k && l)) c := by cases k <;> rfl
theorem ite_or {k l : Bool} {c : PC} : (if k = true then PO.ok (D.bl true) c else PO.ok (D.bl l) c) = PO.ok (D.bl (k || l)) c := by cases k <;> rfl
/-! ### forms that open on symbols -/
def pand (x : D) (y : PO D) (c : PC) : PO D := match x with
  | .bl k => if k then y else .ok (.bl false) c
  | _ => .stuck
def por (x : D) (y : PO D) (c : PC) : PO D := match x with
  | .bl k => if k then .ok (.bl true) c else y
  | _ => .stuck
theorem pand_bl {k : Bool} {y : PO D} {c : PC} : pand (.bl k) y c = if k = true then y else .ok (.bl false) c := rfl
theorem por_bl {k : Bool} {y : PO D} {c : PC} : por (.bl k) y c = if k = true then .ok (.bl true) c else y := rfl
def isNon : D → Bool
  | .non => true
  | _ => false
def isaD (ts : List Ty) (d : D) : Option D := if opq d then none else some (.bl (ts.any fun t => isTy t d))
def slcD (x : D) (l h : Option Int) : Option D := match x with
  | .lst xs => some (.lst (cutD xs l h))
  | .tup xs => some (.tup (cutD xs l h))
  | _ => none
def negD : D → Option D
  | .int i => some (.int (-i))
  | _ => none
def intD : D → Option Int
  | .int i => some i
  | _ => none
section
variable {cl : PCaller} {sg : Sig} {c : PC}
theorem rE_and {a b : IE} : pE cl sg (.and a b) c = (pE cl sg a c).bind fun x c => pand x (pE cl sg b c) c := by
  rw [qE_and]; congr 1; funext x c
  cases x <;> first | rfl | (rename_i k; cases k <;> rfl)
theorem rE_or {a b : IE} : pE cl sg (.or a b) c = (pE cl sg a c).bind fun x c => por x (pE cl sg b c) c := by
  rw [qE_or]; congr 1; funext x c
  cases x <;> first | rfl | (rename_i k; cases k <;> rfl)
theorem rE_isN {a : IE} : pE cl sg (.isN a) c = (pE cl sg a c).bind fun x c => .ok (.bl (isNon x)) c := by
  rw [qE_isN]; congr 1; funext x c
  cases x <;> rfl
theorem rE_notN {a : IE} : pE cl sg (.notN a) c = (pE cl sg a c).bind fun x c => .ok (.bl (!isNon x)) c := by
  rw [qE_notN]; congr 1; funext x c
  cases x <;> rfl
theorem rE_isa {a : IE} {ts : List Ty} : pE cl sg (.isa a ts) c = (pE cl sg a c).bind fun x c => pOpt (isaD ts x) c := by
  rw [qE_isa]; congr 1; funext x c
  cases x <;> rfl
theorem rE_slc {a : IE} {lo hi : List IE} : pE cl sg (.slc a lo hi) c = (pE cl sg a c).bind fun x c => (pP cl sg lo c).bind fun l c => (pP cl sg hi c).bind fun h c => pOpt (slcD x l h) c := by
  rw [qE_slc]; congr 1; funext x c; congr 1; funext l c; congr 1; funext h c
  cases x <;> rfl
theorem rE_neg {a : IE} : pE cl sg (.neg a) c = (pE cl sg a c).bind fun x c => pOpt (negD x) c := by
  rw [qE_neg]; congr 1; funext x c
  cases x <;> rfl
theorem rP_cons {e : IE} {es : List IE} : pP cl sg (e :: es) c = (pE cl sg e c).bind fun x c => (pOpt (intD x) c).bind fun i c => .ok (some i) c := by
  rw [qP_cons]; congr 1; funext x c
  cases x <;> rfl
def starP (d : D) (f : List D → PO (List D)) : PO (List D) := match seqOf d with
  | some xs => f xs
  | none => .stuck
theorem rSt_star {e : IE} {es : List IE} : pSt cl sg (.star e :: es) c = (pE cl sg e c).bind fun d c => (pOpt (seqOf d) c).bind fun xs c => (pSt cl sg es c).bind fun ds c => .ok (xs ++ ds) c := by
  rw [qSt_star]; congr 1; funext d c
  cases seqOf d <;> rfl
theorem rIt_zip {a b : IE} : pIt cl sg (.zip a b) c = (pE cl sg a c).bind fun x c => (pE cl sg b c).bind fun y c => (pOpt (seqOf x) c).bind fun xs c => (pOpt (seqOf y) c).bind fun ys c => .ok (zipD xs ys) c := by
  rw [qIt_zip]; congr 1; funext x c; congr 1; funext y c
  cases seqOf x <;> first | rfl | (cases seqOf y <;> rfl)
theorem rIt_enm {a : IE} {st : List IE} : pIt cl sg (.enm a st) c = (pE cl sg a c).bind fun x c => (pP cl sg st c).bind fun k c => if rOk (k.getD 0) then (pOpt (seqOf x) c).bind fun xs c => .ok (enmD (k.getD 0) xs) c else .stuck := by
  rw [qIt_enm]; congr 1; funext x c; congr 1; funext k c
  split
  · cases seqOf x <;> rfl
  · rfl
def retP (r : PR) (c : PC) : PO D := match r with
  | .ok d s => .ok d { c with s := s }
  | .exc x d s => .exc x d { c with s := s }
  | .stuck => .stuck
theorem retP_ok {d : D} {s : List Stm} {c : PC} : retP (.ok d s) c = .ok d ⟨c.e, s⟩ := rfl
theorem retP_exc {x : Str} {d : D} {s : List Stm} {c : PC} : retP (.exc x d s) c = .exc x d ⟨c.e, s⟩ := rfl
theorem retP_ite {k : Prop} [Decidable k] {x y : PR} {c : PC} : retP (if k then x else y) c = if k then retP x c else retP y c := by split <;> rfl
theorem perm_allP {α : Type} {d : α} {ps : List Str} {as : List α} (h : as.length = ps.length) : perm d ps [] as [] = as := by
  unfold perm
  rw [List.drop_eq_nil_of_le (by omega)]
  simp
/-- all arguments by their places -/
theorem rE_call {f : Str} {as : List IE} : pE cl sg (.call f as [] []) c = (pA cl sg as c).bind fun ds c => if ds.length = (sg f).length then retP (cl f ds c.s) c else .stuck := by
  rw [qE_call]; congr 1; funext ds c
  rw [qA_nil, pbind_ok]
  by_cases h : ds.length = (sg f).length
  · have e : byName (sg f) ds [] [] = some ds := by
      unfold byName
      have hp : permOk (sg f) [] ds.length ([] : List D).length = true := by simp [permOk, h]
      rw [if_pos hp, perm_allP h]
    rw [e, if_pos h]
    dsimp only
    cases cl f ds c.s <;> rfl
  · have e : byName (sg f) ds [] [] = none := by
      unfold byName
      rw [if_neg]
      intro z
      simp [permOk] at z
      exact h (by omega)
    rw [e, if_neg h]
theorem rE_callK {f k : Str} {as kas : List IE} {ks : List Str} : pE cl sg (.call f as (k :: ks) kas) c = (pA cl sg as c).bind fun ds c => (pA cl sg kas c).bind fun dk c => (pOpt (byName (sg f) ds (k :: ks) dk) c).bind fun args c => retP (cl f args c.s) c := by
  rw [qE_call]; congr 1; funext ds c; congr 1; funext dk c
  cases byName (sg f) ds (k :: ks) dk with
  | none => rfl
  | some args => show _ = retP _ _; dsimp only; cases cl f args c.s <;> rfl
/-- what may be spoilt -/
def spG (d : D) : Bool := spOk 20 d && decide (2 * nodes d ≤ SZ)
theorem rS_spoil {e : IE} : pS cl sg (.spoil e) c = (pE cl sg e c).w fun d c => if spG d then .nx c else .stuck := by
  rw [qS_spoil]; rfl
def mthP (m : Mt) (i : Nat) (ds : List D) (o : Option (Option D)) (c : PC) : PO D := match o with
  | some (some (.lst xs)) => match mthD m xs ds with
    | some (d, ys) => .ok d { c with e := c.e.set i (some (.lst ys)) }
    | none => .stuck
  | _ => .stuck
theorem rE_mth {m : Mt} {i : Nat} {as : List IE} : pE cl sg (.mth m i as) c = (pA cl sg as c).bind fun ds c => mthP m i ds c.e[i]? c := by
  rw [qE_mth]; rfl
theorem mthP_append {i : Nat} {d : D} {xs : List D} {e : List (Option D)} {s : List Stm} (h : xs.length < SZ) : mthP .append i [d] (some (some (.lst xs))) ⟨e, s⟩ = .ok .non ⟨e.set i (some (.lst (xs ++ [d]))), s⟩ := by
  unfold mthP
  simp only [mthD, if_pos h]
theorem mthP_extend {i : Nat} {ys xs : List D} {e : List (Option D)} {s : List Stm} (h : xs.length + ys.length ≤ SZ) : mthP .extend i [.lst ys] (some (some (.lst xs))) ⟨e, s⟩ = .ok .non ⟨e.set i (some (.lst (xs ++ ys))), s⟩ := by
  unfold mthP
  simp only [mthD, if_pos h]
end
/-! ### sequences: lists or tuples -/
def sq (b : Bool) (xs : List D) : D := if b then .lst xs else .tup xs
theorem sq_of {d : D} {xs : List D} (h : seqOf d = some xs) : ∃ b, d = sq b xs := by
  cases d <;> simp [seqOf] at h
  · subst h; exact ⟨true, rfl⟩
  · subst h; exact ⟨false, rfl⟩
section
variable {b : Bool} {xs ys : List D}
theorem seqOf_sq : seqOf (sq b xs) = some xs := by cases b <;> rfl
theorem tru_sq : tru (sq b xs) = some (!xs.isEmpty) := by cases b <;> rfl
theorem isNon_sq : isNon (sq b xs) = false := by cases b <;> rfl
theorem opq_sq : opq (sq b xs) = false := by cases b <;> rfl
theorem isTy_sq {t : Ty} : isTy t (sq b xs) = match t with | .list => b | .tuple => !b | _ => false := by cases b <;> cases t <;> rfl
theorem isaLT_sq : isaD [.list, .tuple] (sq b xs) = some (.bl true) := by cases b <;> rfl
theorem isaL_sq : isaD [.list] (sq b xs) = some (.bl b) := by cases b <;> rfl
theorem isaT_sq : isaD [.tuple] (sq b xs) = some (.bl (!b)) := by cases b <;> rfl
theorem len_sq : bltD .len [sq b xs] = some (false, .int xs.length) := by cases b <;> rfl
theorem list_sq : bltD .list [sq b xs] = some (true, .lst xs) := by cases b <;> rfl
theorem tuple_sq : bltD .tuple [sq b xs] = some (false, .tup xs) := by cases b <;> rfl
theorem ix_sq {i : Int} : ixD (sq b xs) (.int i) = atD xs i := by cases b <;> rfl
theorem slc_sq {l h : Option Int} : slcD (sq b xs) l h = some (sq b (cutD xs l h)) := by cases b <;> rfl
theorem sq_true : sq true xs = .lst xs := rfl
theorem sq_false : sq false xs = .tup xs := rfl
theorem setPg_sq {ts : List Nat} {r : List (Option D)} : setPg ts false (sq b xs) r = setPs ts xs r := by cases b <;> rfl
end
/-! ### calls -/
theorem callP_eq {P : Pg} {n : Nat} {f : Str} {fd : Fd} {as : List D} {s : List Stm} (h : List.lookup f (P : List (Str × Fd)) = some fd) (hl : as.length = fd.ps.length) : callP P (n + 1) f as s = endP (qL (callP P n) (sgOf P) fd.body ⟨startP fd as, s⟩) := by
  have h : List.lookup f P = some fd := h
  simp only [callP, h, qL_eq]
  rw [if_pos hl]
theorem startP_eq {fd : Fd} {as : List D} : startP fd as = as.map some ++ List.replicate (fd.N.length - as.length) none := rfl
/-! ### loops -/
/-- what a row comes to: it goes on so that N, hands back so that R, raises so that X -/
def PW (o : PF) (N : PC → Prop) (R : D → PC → Prop) (X : Str → D → PC → Prop) : Prop := match o with
  | .nx c => N c
  | .rt d c => R d c
  | .exc x d c => X x d c
  | .stuck => False
abbrev noX : Str → D → PC → Prop := fun _ _ _ => False
theorem PW.imp {o : PF} {N N' : PC → Prop} {R R' : D → PC → Prop} {X X' : Str → D → PC → Prop} (h : PW o N R X) (hn : ∀ c, N c → N' c) (hr : ∀ d c, R d c → R' d c) (hx : ∀ x d c, X x d c → X' x d c) : PW o N' R' X' := by
  cases o with
  | nx c => exact hn _ h
  | rt d c => exact hr _ _ h
  | exc x d c => exact hx _ _ _ h
  | stuck => exact h
theorem PW.then {o : PF} {k : PC → PF} {N : PC → Prop} {R : D → PC → Prop} {X : Str → D → PC → Prop} : PW (o.then k) N R X = PW o (fun c => PW (k c) N R X) R X := by cases o <;> rfl
theorem PW.cons {cl : PCaller} {sg : Sig} {i : IS} {is : List IS} {c : PC} {N : PC → Prop} {R : D → PC → Prop} {X : Str → D → PC → Prop} (h : PW (pS cl sg i c) (fun c => PW (qL cl sg is c) N R X) R X) : PW (qL cl sg (i :: is) c) N R X := by
  rw [qL_cons, PW.then]; exact h
theorem PW.nil {cl : PCaller} {sg : Sig} {c : PC} {N : PC → Prop} {R : D → PC → Prop} {X : Str → D → PC → Prop} (h : N c) : PW (qL cl sg [] c) N R X := by
  rw [qL_nil]; exact h
theorem call_of {P : Pg} {n : Nat} {f : Str} {fd : Fd} {as : List D} {s s' : List Stm} {d : D} (h : List.lookup f (P : List (Str × Fd)) = some fd) (hl : as.length = fd.ps.length) (k : PW (qL (callP P n) (sgOf P) fd.body ⟨startP fd as, s⟩) (fun c => d = .non ∧ c.s = s') (fun d' c => d' = d ∧ c.s = s') noX) : callP P (n + 1) f as s = .ok d s' := by
  rw [callP_eq h hl]
  cases e : qL (callP P n) (sgOf P) fd.body ⟨startP fd as, s⟩ <;> rw [e] at k <;> first | exact k.elim | (obtain ⟨rfl, rfl⟩ := k; rfl)
/-- .. some outcome -/
theorem call_ex {P : Pg} {n : Nat} {f : Str} {fd : Fd} {as : List D} {s : List Stm} {Q : D → List Stm → Prop} (h : List.lookup f (P : List (Str × Fd)) = some fd) (hl : as.length = fd.ps.length) (k : PW (qL (callP P n) (sgOf P) fd.body ⟨startP fd as, s⟩) (fun c => Q .non c.s) (fun d' c => Q d' c.s) noX) : ∃ d s', callP P (n + 1) f as s = .ok d s' ∧ Q d s' := by
  rw [callP_eq h hl]
  cases e : qL (callP P n) (sgOf P) fd.body ⟨startP fd as, s⟩ <;> rw [e] at k <;> first | exact k.elim | exact ⟨_, _, rfl, k⟩
section
variable {cl : PCaller} {sg : Sig}
/-- a turn -/
def pft (cl : PCaller) (sg : Sig) (ts : List Nat) (one : Bool) (body : List IS) (x : D) (c : PC) : PF := (pOpt (setPg ts one x c.e) c).w fun r c => qL cl sg body { c with e := r }
theorem pfo_nil {ts : List Nat} {one : Bool} {body : List IS} {c : PC} : pfo cl sg ts one body [] c = .nx c := rfl
theorem pfo_cons {ts : List Nat} {one : Bool} {body : List IS} {x : D} {xs : List D} {c : PC} : pfo cl sg ts one body (x :: xs) c = (pft cl sg ts one body x c).then fun c => pfo cl sg ts one body xs c := by
  show (match pft cl sg ts one body x c with | .nx c => _ | o => o) = _
  cases pft cl sg ts one body x c <;> rfl
theorem pfo_wp {ts : List Nat} {one : Bool} {body : List IS} {N : PC → Prop} {R : D → PC → Prop} {X : Str → D → PC → Prop} (I : List D → PC → Prop)
    (h : ∀ x xs c, I (x :: xs) c → PW (pft cl sg ts one body x c) (I xs) R X) (hz : ∀ c, I [] c → N c) : ∀ xs c, I xs c → PW (pfo cl sg ts one body xs c) N R X
  | [], c, hi => hz c hi
  | x :: xs, c, hi => by
    rw [pfo_cons, PW.then]
    exact (h x xs c hi).imp (fun c hc => pfo_wp I h hz xs c hc) (fun _ _ h => h) (fun _ _ _ h => h)
/-- a state carried from turn to turn -/
theorem pfo_fold {α β : Type} {ts : List Nat} {one : Bool} {body : List IS} (E : β → PC) (F : α → D) (step : β → α → β) (I : List α → β → Prop) {xs : List α} {b : β} {c : PC} (hc : c = E b) (hi : I xs b)
    (h : ∀ x xs b, I (x :: xs) b → pft cl sg ts one body (F x) (E b) = .nx (E (step b x)) ∧ I xs (step b x)) : pfo cl sg ts one body (xs.map F) c = .nx (E (xs.foldl step b)) := by
  subst hc
  induction xs generalizing b with
  | nil => rfl
  | cons x xs ih =>
    obtain ⟨h1, h2⟩ := h x xs b hi
    rw [List.map_cons, pfo_cons, h1, pthen_nx, List.foldl_cons]
    exact ih h2
/-- the first item that ends it -/
theorem pfo_find {α : Type} {ts : List Nat} {one : Bool} {body : List IS} {c : PC} {K : PC → PF} {xs : List α} {F : α → D} (p : α → Bool) (G : α → D)
    (h : ∀ x ∈ xs, if p x then ∃ e', pft cl sg ts one body (F x) c = .rt (G x) ⟨e', c.s⟩ else pft cl sg ts one body (F x) c = .nx c) :
    endP ((pfo cl sg ts one body (xs.map F) c).then K) = match xs.find? p with | some x => .ok (G x) c.s | none => endP (K c) := by
  induction xs with
  | nil => rfl
  | cons x xs ih =>
    have h1 := h x List.mem_cons_self
    rw [List.map_cons, pfo_cons, List.find?_cons]
    cases hp : p x with
    | true =>
      rw [hp] at h1
      obtain ⟨e', e⟩ := h1
      rw [e]; rfl
    | false =>
      rw [hp] at h1
      simp only [Bool.false_eq_true, if_false] at h1
      rw [h1, pthen_nx]
      exact ih fun y hy => h y (List.mem_cons_of_mem _ hy)
theorem pwh_zero {t : IE} {body : List IS} {c : PC} : pwh cl sg t body 0 c = .stuck := rfl
theorem pwh_succ {t : IE} {body : List IS} {n : Nat} {c : PC} : pwh cl sg t body (n + 1) c = (pT (pE cl sg t c)).w fun k c => if k then (qL cl sg body c).then fun c => pwh cl sg t body n c else .nx c := by
  show pwGo _ _ (n + 1) c = _
  simp only [pwGo]
  cases pT (pE cl sg t c) with
  | ok k c =>
    cases k
    · rfl
    · show (match qL cl sg body c with | .nx c => _ | o => o) = _
      simp only [pw_ok, if_true]
      cases qL cl sg body c <;> rfl
  | exc x d c => rfl
  | stuck => rfl
/-- as long as I holds with a measure, the test is told; a turn lessens the measure -/
theorem pwh_wp {t : IE} {body : List IS} {N : PC → Prop} {R : D → PC → Prop} {X : Str → D → PC → Prop} (I : Nat → PC → Prop)
    (h : ∀ m c, I m c → (∃ c', pT (pE cl sg t c) = .ok true c' ∧ PW (qL cl sg body c') (fun c => ∃ m', m' < m ∧ I m' c) R X) ∨ (∃ c', pT (pE cl sg t c) = .ok false c' ∧ N c')) : ∀ n m c, I m c → m < n → PW (pwh cl sg t body n c) N R X
  | 0, m, c, _, hm => by omega
  | n + 1, m, c, hi, hm => by
    rw [pwh_succ]
    rcases h m c hi with ⟨c', e, k⟩ | ⟨c', e, k⟩
    · rw [e, pw_ok, if_pos rfl, PW.then]
      exact k.imp (fun c ⟨m', hl, hi⟩ => pwh_wp I h n m' c hi (by omega)) (fun _ _ h => h) (fun _ _ _ h => h)
    · rw [e, pw_ok, if_neg (by decide)]; exact k
theorem PW.while {t : IE} {body is : List IS} {c : PC} {N : PC → Prop} {R : D → PC → Prop} {X : Str → D → PC → Prop} (I : Nat → PC → Prop) {m : Nat} (hm : m < fuel) (hi : I m c)
    (h : ∀ m c, I m c → (∃ c', pT (pE cl sg t c) = .ok true c' ∧ PW (qL cl sg body c') (fun c => ∃ m', m' < m ∧ I m' c) R X) ∨ (∃ c', pT (pE cl sg t c) = .ok false c' ∧ PW (qL cl sg is c') N R X)) : PW (qL cl sg (.while t body :: is) c) N R X := by
  refine PW.cons ?_
  rw [qS_while]
  exact pwh_wp I h _ m c hi hm
/-- a row by itself: what follows is out of sight -/
theorem PW.gen {i : IS} {is : List IS} {c : PC} {N : PC → Prop} {R : D → PC → Prop} {X : Str → D → PC → Prop} (h : ∀ T : PF → Prop, (∀ c, PW (qL cl sg is c) N R X → T (.nx c)) → (∀ d c, R d c → T (.rt d c)) → (∀ x d c, X x d c → T (.exc x d c)) → T (pS cl sg i c)) : PW (qL cl sg (i :: is) c) N R X := by
  rw [qL_cons]
  exact h (fun o => PW (o.then fun c => qL cl sg is c) N R X) (fun c h => h) (fun d c h => h) (fun x d c h => h)
theorem PW.step {i : IS} {is : List IS} {c c' : PC} {N : PC → Prop} {R : D → PC → Prop} {X : Str → D → PC → Prop} (h : pS cl sg i c = .nx c') (k : PW (qL cl sg is c') N R X) : PW (qL cl sg (i :: is) c) N R X := by
  rw [qL_cons, h]; exact k
theorem PW.for {ts : List Nat} {one : Bool} {it : IT} {body is : List IS} {c c1 : PC} {N : PC → Prop} {R : D → PC → Prop} {X : Str → D → PC → Prop} {xs : List D} (I : List D → PC → Prop) (h1 : pIt cl sg it c = .ok xs c1) (hI : I xs c1)
    (hs : ∀ x xs c, I (x :: xs) c → PW (pft cl sg ts one body x c) (I xs) R X) (hz : ∀ c, I [] c → PW (qL cl sg is c) N R X) : PW (qL cl sg (.for ts one it body :: is) c) N R X := by
  refine PW.cons ?_
  rw [qS_for, h1]
  exact pfo_wp I hs hz xs c1 hI
/-! ### comprehensions -/
/-- a turn of a comprehension: it makes od, and leaves the rest as it is -/
def CT (ts : List Nat) (e1 : List (Option D)) (s : List Stm) (od : Option D) (o : PO (Option D)) : Prop := match o with
  | .ok od' c => od' = od ∧ c.s = s ∧ wipeP c.e ts = e1
  | _ => False
theorem wipeP_len' {ts : List Nat} {e : List (Option D)} : (wipeP e ts).length = e.length := by
  induction ts with
  | nil => rfl
  | cons t ts ih => simp only [wipeP, List.length_set, ih]
theorem wipe_back {e0 e : List (Option D)} : ∀ {ts : List Nat}, wipeP e ts = wipeP e0 ts → backP e0 e ts = e0 := fun {ts} h => by
  have hl : e.length = e0.length := by rw [← wipeP_len' (ts := ts), h, wipeP_len']
  have key : ∀ ts : List Nat, (backP e0 e ts).length = e.length ∧ ∀ i, (backP e0 e ts)[i]? = if i ∈ ts then (if i < e.length then some (e0.getD i none) else none) else e[i]? := fun ts => by
    induction ts with
    | nil => exact ⟨rfl, fun i => by simp [backP]⟩
    | cons t ts ih =>
      obtain ⟨i1, i2⟩ := ih
      refine ⟨by simp only [backP, List.length_set, i1], fun i => ?_⟩
      simp only [backP, List.getElem?_set, i1, List.mem_cons]
      by_cases ht : t = i
      · subst ht
        simp
      · simp [ht, Ne.symm ht, i2 i]
  have wk : ∀ (ts : List Nat) (e : List (Option D)) (i : Nat), i ∉ ts → (wipeP e ts)[i]? = e[i]? := fun ts e i => by
    induction ts with
    | nil => intro _; rfl
    | cons t ts ih =>
      intro hi
      simp only [List.mem_cons, not_or] at hi
      simp only [wipeP]
      rw [List.getElem?_set_ne (Ne.symm hi.1), ih hi.2]
  refine List.ext_getElem? fun i => ?_
  rw [(key ts).2 i]
  split
  · split
    · rename_i h1 h2
      rw [List.getD_eq_getElem?_getD]
      rw [List.getElem?_eq_getElem (by omega)]; rfl
    · rw [List.getElem?_eq_none (by omega)]
  · rename_i h1
    rw [← wk ts e i h1, h, wk ts e0 i h1]
theorem plc_fm {α : Type} {e : IE} {ts : List Nat} {one : Bool} {cs : List IE} {c : PC} (xs : List α) (F : α → D) (G : α → Option D) (hl : xs.length ≤ SZ)
    (h : ∀ x ∈ xs, CT ts (wipeP c.e ts) c.s (G x) (plT cl sg e ts one cs (F x) ⟨wipeP c.e ts, c.s⟩)) : plc cl sg e ts one cs (xs.map F) c = .ok (.lst (xs.filterMap G)) c := by
  have go : ∀ (ys : List α), (∀ y ∈ ys, y ∈ xs) → ∀ e0, wipeP e0 ts = wipeP c.e ts → ∃ e', pcGo ts (plT cl sg e ts one cs) (ys.map F) ⟨e0, c.s⟩ = .ok (ys.filterMap G) ⟨e', c.s⟩ ∧ wipeP e' ts = wipeP c.e ts := fun ys => by
    induction ys with
    | nil => exact fun _ e0 h0 => ⟨e0, rfl, h0⟩
    | cons y ys ih =>
      intro hy e0 h0
      have hh := h y (hy y List.mem_cons_self)
      simp only [List.map_cons, pcGo, h0]
      cases eo : plT cl sg e ts one cs (F y) ⟨wipeP c.e ts, c.s⟩ with
      | exc _ _ _ => rw [eo] at hh; exact hh.elim
      | stuck => rw [eo] at hh; exact hh.elim
      | ok od c' =>
        rw [eo] at hh
        obtain ⟨rfl, h2, h3⟩ := hh
        obtain ⟨e', h4, h5⟩ := ih (fun z hz => hy z (List.mem_cons_of_mem _ hz)) c'.e h3
        obtain ⟨ce, cs'⟩ := c'
        dsimp only at h2 h4
        subst h2
        refine ⟨e', ?_, h5⟩
        rw [pbind_ok, h4, pbind_ok]
        cases hG : G y <;> simp [List.filterMap_cons, hG]
  obtain ⟨e', h1, h2⟩ := go xs (fun _ h => h) c.e rfl
  unfold plc
  rw [if_pos (by rw [List.length_map]; exact hl)]
  have e0 : c = ⟨c.e, c.s⟩ := rfl
  rw [e0, h1]
  show PO.ok _ _ = _
  congr 2
  exact wipe_back h2
theorem plc_map {α : Type} {e : IE} {ts : List Nat} {one : Bool} {c : PC} (xs : List α) (F : α → D) (G : α → D) (hl : xs.length ≤ SZ)
    (h : ∀ x ∈ xs, CT ts (wipeP c.e ts) c.s (some (G x)) (plT cl sg e ts one [] (F x) ⟨wipeP c.e ts, c.s⟩)) : plc cl sg e ts one [] (xs.map F) c = .ok (.lst (xs.map G)) c := by
  rw [plc_fm xs F (fun x => some (G x)) hl h]
  congr 2
  induction xs with
  | nil => rfl
  | cons x xs ih => simp
theorem plc_filter {α : Type} {e : IE} {ts : List Nat} {one : Bool} {cs : List IE} {c : PC} (xs : List α) (F : α → D) (p : α → Bool) (G : α → D) (hl : xs.length ≤ SZ)
    (h : ∀ x ∈ xs, CT ts (wipeP c.e ts) c.s (if p x then some (G x) else none) (plT cl sg e ts one cs (F x) ⟨wipeP c.e ts, c.s⟩)) : plc cl sg e ts one cs (xs.map F) c = .ok (.lst ((xs.filter p).map G)) c := by
  rw [plc_fm xs F (fun x => if p x then some (G x) else none) hl h]
  congr 2
  clear h hl
  induction xs with
  | nil => rfl
  | cons x xs ih =>
    cases hp : p x <;> simp [List.filterMap_cons, List.filter_cons, hp, ih]
/-- a comprehension that draws: each turn makes something of which Q holds -/
theorem plc_wp {α : Type} {e : IE} {ts : List Nat} {one : Bool} {cs : List IE} (F : α → D) (Q : α → Option D → Prop) (S : Nat → List Stm → Prop) {e1 : List (Option D)} : ∀ (xs : List α), 
    (∀ x ∈ xs, ∀ n s, S (n + 1) s → ∃ od c', plT cl sg e ts one cs (F x) ⟨e1, s⟩ = .ok od c' ∧ Q x od ∧ S n c'.s ∧ wipeP c'.e ts = e1) → ∀ e0 s n, S (xs.length + n) s → wipeP e0 ts = e1 → ∃ ods e' s', pcGo ts (plT cl sg e ts one cs) (xs.map F) ⟨e0, s⟩ = .ok (ods.filterMap id) ⟨e', s'⟩ ∧ ods.length = xs.length ∧ (∀ p ∈ xs.zip ods, Q p.1 p.2) ∧ S n s' ∧ wipeP e' ts = e1
  | [], _, e0, s, n, hs, h0 => ⟨[], e0, s, rfl, rfl, fun p hp => by simp at hp, by simpa using hs, h0⟩
  | x :: xs, h, e0, s, n, hs, h0 => by
    have e2 : (x :: xs).length + n = (xs.length + n) + 1 := by simp; omega
    rw [e2] at hs
    obtain ⟨od, c', h1, h2, h3, h4⟩ := h x List.mem_cons_self _ s hs
    obtain ⟨ods, e', s', k1, k2, k3, k4, k5⟩ := plc_wp F Q S xs (fun y hy => h y (List.mem_cons_of_mem _ hy)) c'.e c'.s n h3 h4
    refine ⟨od :: ods, e', s', ?_, by simp [k2], ?_, k4, k5⟩
    · simp only [List.map_cons, pcGo, h0, h1, pbind_ok]
      have : (⟨c'.e, c'.s⟩ : PC) = c' := rfl
      rw [this] at k1
      rw [k1, pbind_ok]
      cases od <;> simp [List.filterMap_cons]
    · intro p hp
      rw [List.zip_cons_cons] at hp
      rcases List.mem_cons.mp hp with rfl | hp
      · exact h2
      · exact k3 p hp
end
end Sd

/-! Pu7: a law by the plain evaluator. -/
namespace Sd
open PySem PySem.Spec PyProof.Rows L2
def law2A (k : Nat) : List AS := .sh Fl.top :: .nt :: .sh Fl.top :: List.replicate k .un
def law2P (ad : Addr) (t : Int) (k : Nat) : List (Option D) := some (.obj ad) :: some (.int t) :: some (.stm 0) :: List.replicate k none
def lawA (k : Nat) : List AS := .un :: .sh Fl.top :: List.replicate k .un
def lawP (k : Nat) : List (Option D) := none :: some (.stm 0) :: List.replicate k none
/-- the look at a law that makes a stream each turn -/
def look2 (P : Pg) (T : Tb) (lawI : List IS) (k : Nat) : Bool := lkPg P T && match lkL (smOf T) 1 false lawI (law2A k) with
  | some S => match S.nx with
    | some A => match A with
      | .sh _ :: _ => true
      | _ => false
    | none => false
  | none => false
def look1 (P : Pg) (T : Tb) (lawI : List IS) (k : Nat) : Bool := lkPg P T && (lkL (smOf T) 1 false lawI (lawA k)).isSome
theorem sim_rep {lv k : Nat} (i : Nat) : SlotS lv ((List.replicate k AS.un).getD i .un) ((List.replicate k Slot.un).getD i .un) ((List.replicate k (none : Option D)).getD i none) := by
  have e : (List.replicate k AS.un).getD i .un = .un := by
    rw [List.getD_eq_getElem?_getD, List.getElem?_replicate]
    split <;> rfl
  rw [e]; trivial
theorem sim_law2 {ad : Addr} {t : Int} {k : Nat} {s : List Stm} : Sim 1 (law2A k) ⟨law2R ad t k, s⟩ ⟨law2P ad t k, s⟩ := by
  refine ⟨by simp [law2A, law2R], by simp [law2P, law2R], fun i => ?_, rfl⟩
  match i with
  | 0 => exact ⟨.rf, rfl⟩
  | 1 => exact ⟨.rf, rfl, _, rfl⟩
  | 2 => exact ⟨.rf, rfl⟩
  | i + 3 => exact sim_rep i
theorem sim_law {k : Nat} {s : List Stm} : Sim 1 (lawA k) ⟨lawR k, s⟩ ⟨lawP k, s⟩ := by
  refine ⟨by simp [lawA, lawR], by simp [lawP, lawR], fun i => ?_, rfl⟩
  match i with
  | 0 => trivial
  | 1 => exact ⟨.rf, rfl⟩
  | i + 2 => exact sim_rep i
theorem law2_of {P : Pg} {T : Tb} {lawI : List IS} {k n N : Nat} (h : look2 P T lawI k = true)
    (hp : ∀ (ad : Addr) (ns : List Int) (t : Int), ns.length ≤ 64 → 0 ≤ t → t < N → ∃ p', pL (callP P n) (sgOf P) lawI ⟨law2P ad t k, [⟨ns, 0, 0, 19⟩]⟩ = .nx p' ∧ p'.e[0]? = some (some (.obj ad)) ∧ p'.e.length = k + 3) :
    ∀ (ad : Addr) (ns : List Int) (t : Int), ns.length ≤ 64 → 0 ≤ t → t < N → ∃ c', exL (callF P n) (sgOf P) 1 false lawI ⟨law2R ad t k, [⟨ns, 0, 0, 19⟩]⟩ = .nx c' ∧ (∃ f, c'.r[0]? = some (.sh f (.obj ad))) ∧ c'.r.length = k + 3 := fun ad ns t h1 h2 h3 => by
  unfold look2 at h
  rw [Bool.and_eq_true] at h
  obtain ⟨h0, h⟩ := h
  obtain ⟨p', e, hp0, hpl⟩ := hp ad ns t h1 h2 h3
  cases hS : lkL (smOf T) 1 false lawI (law2A k) with
  | none => rw [hS] at h; cases h
  | some S =>
    rw [hS] at h
    have q := lAll (sg := sgOf P) (call_sim h0 n) lawI _ _ _ _ _ _ hS (sim_law2 (ad := ad) (t := t) (s := [⟨ns, 0, 0, 19⟩]))
    rw [e] at q
    obtain ⟨c', A', e1, e2, s⟩ := q
    dsimp only at h
    rw [e2] at h
    cases A' with
    | nil => cases h
    | cons a A' =>
      cases a <;> first | cases h | skip
      rename_i f
      have a0 := s.at_ 0
      have g0 : p'.e.getD 0 none = some (.obj ad) := gD hp0
      rw [g0] at a0
      have lr : c'.r.length = k + 3 := by rw [← s.lp, hpl]
      refine ⟨c', e1, ?_, lr⟩
      cases hr : c'.r with
      | nil => rw [hr] at lr; simp at lr
      | cons s0 r =>
        rw [hr] at a0
        cases s0 with
        | un => exact a0.elim
        | ow g d => exact a0.elim
        | sh g d =>
          obtain ⟨_, e4⟩ := a0
          cases e4
          exact ⟨g, rfl⟩
theorem law1_of {P : Pg} {T : Tb} {lawI : List IS} {k n : Nat} (h : look1 P T lawI k = true)
    (hp : ∀ ns : List Int, ns.length ≤ 63 → ∃ p', pL (callP P n) (sgOf P) lawI ⟨lawP k, [⟨ns, 0, 0, 19⟩]⟩ = .rt (.bl true) p') :
    ∀ ns : List Int, ns.length ≤ 63 → ∃ f c', exL (callF P n) (sgOf P) 1 false lawI ⟨lawR k, [⟨ns, 0, 0, 19⟩]⟩ = .rt f (.bl true) c' := fun ns h1 => by
  unfold look1 at h
  rw [Bool.and_eq_true] at h
  obtain ⟨h0, h⟩ := h
  obtain ⟨p', e⟩ := hp ns h1
  cases hS : lkL (smOf T) 1 false lawI (lawA k) with
  | none => rw [hS] at h; cases h
  | some S =>
    have q := lAll (sg := sgOf P) (call_sim h0 n) lawI _ _ _ _ _ _ hS (sim_law (s := [⟨ns, 0, 0, 19⟩]))
    rw [e] at q
    obtain ⟨f, c', e1, _⟩ := q
    exact ⟨f, c', e1⟩
/-- from what is shown of the block -/
theorem law1_wp {P : Pg} {lawI : List IS} {k n : Nat} {ns : List Int} (h : PW (qL (callP P n) (sgOf P) lawI ⟨lawP k, [⟨ns, 0, 0, 19⟩]⟩) (fun _ => False) (fun d _ => d = .bl true) noX) : ∃ p', pL (callP P n) (sgOf P) lawI ⟨lawP k, [⟨ns, 0, 0, 19⟩]⟩ = .rt (.bl true) p' := by
  rw [qL_eq] at h
  cases e : pL (callP P n) (sgOf P) lawI ⟨lawP k, [⟨ns, 0, 0, 19⟩]⟩ <;> rw [e] at h <;> first | exact h.elim | (cases h; exact ⟨_, rfl⟩)
theorem law2_wp {P : Pg} {lawI : List IS} {k n : Nat} {ns : List Int} {ad : Addr} {t : Int} (h : PW (qL (callP P n) (sgOf P) lawI ⟨law2P ad t k, [⟨ns, 0, 0, 19⟩]⟩) (fun c => c.e[0]? = some (some (.obj ad)) ∧ c.e.length = k + 3) (fun _ _ => False) noX) : ∃ p', pL (callP P n) (sgOf P) lawI ⟨law2P ad t k, [⟨ns, 0, 0, 19⟩]⟩ = .nx p' ∧ p'.e[0]? = some (some (.obj ad)) ∧ p'.e.length = k + 3 := by
  rw [qL_eq] at h
  cases e : pL (callP P n) (sgOf P) lawI ⟨law2P ad t k, [⟨ns, 0, 0, 19⟩]⟩ <;> rw [e] at h <;> first | exact h.elim | exact ⟨_, rfl, h⟩
end Sd

/-! Px2: what operations make of data. -/
namespace Sd
open PySem PySem.Spec PyProof.Rows L2
theorem tru_bl {k : Bool} : tru (.bl k) = some k := rfl
theorem tru_int {i : Int} : tru (.int i) = some (i != 0) := rfl
theorem tru_non : tru .non = some false := rfl
theorem isNon_non : isNon .non = true := rfl
theorem isNon_bl {b : Bool} : isNon (.bl b) = false := rfl
theorem isNon_int {b : Int} : isNon (.int b) = false := rfl
theorem isNon_str {b : Str} : isNon (.str b) = false := rfl
theorem isNon_l {b : List D} : isNon (.lst b) = false := rfl
theorem isNon_t {b : List D} : isNon (.tup b) = false := rfl
section
variable {ts : List Ty}
theorem isaD_non : isaD ts .non = some (.bl (ts.any fun t => isTy t .non)) := rfl
theorem isaD_bl {b : Bool} : isaD ts (.bl b) = some (.bl (ts.any fun t => isTy t (.bl b))) := rfl
theorem isaD_int {b : Int} : isaD ts (.int b) = some (.bl (ts.any fun t => isTy t (.int b))) := rfl
theorem isaD_str {b : Str} : isaD ts (.str b) = some (.bl (ts.any fun t => isTy t (.str b))) := rfl
theorem isaD_l {b : List D} : isaD ts (.lst b) = some (.bl (ts.any fun t => isTy t (.lst b))) := rfl
theorem isaD_t {b : List D} : isaD ts (.tup b) = some (.bl (ts.any fun t => isTy t (.tup b))) := rfl
end
theorem seqOf_l {xs : List D} : seqOf (.lst xs) = some xs := rfl
theorem seqOf_t {xs : List D} : seqOf (.tup xs) = some xs := rfl
theorem setPg_one {ts : List Nat} {d : D} {r : List (Option D)} : setPg ts true d r = setPs ts [d] r := rfl
theorem setPg_t {ts : List Nat} {xs : List D} {r : List (Option D)} : setPg ts false (.tup xs) r = setPs ts xs r := rfl
theorem setPg_l {ts : List Nat} {xs : List D} {r : List (Option D)} : setPg ts false (.lst xs) r = setPs ts xs r := rfl
section
variable {i j : Int} {a b : Bool}
theorem cmp_lt_i : cmpD .lt (.int i) (.int j) = some (decide (i < j)) := rfl
theorem cmp_le_i : cmpD .le (.int i) (.int j) = some (decide (i ≤ j)) := rfl
theorem cmp_gt_i : cmpD .gt (.int i) (.int j) = some (decide (j < i)) := rfl
theorem cmp_ge_i : cmpD .ge (.int i) (.int j) = some (decide (j ≤ i)) := rfl
theorem cmp_eq_i : cmpD .eq (.int i) (.int j) = some (i == j) := rfl
theorem cmp_ne_i : cmpD .ne (.int i) (.int j) = some (!(i == j)) := rfl
theorem cmp_eq_b : cmpD .eq (.bl a) (.bl b) = some (a == b) := rfl
theorem cmp_ne_b : cmpD .ne (.bl a) (.bl b) = some (!(a == b)) := rfl
theorem abs_i : bltD .abs [.int i] = some (false, .int (if i < 0 then -i else i)) := rfl
theorem max_2 : bltD .max [.int i, .int j] = some (false, .int (if j > i then j else i)) := rfl
theorem min_2 : bltD .min [.int i, .int j] = some (false, .int (if j < i then j else i)) := rfl
theorem int_i : bltD .int [.int i] = some (false, .int i) := rfl
theorem int_b : bltD .int [.bl a] = some (false, .int (if a then 1 else 0)) := rfl
end
section
variable {xs ys : List D} {i : Int} {l h : Option Int}
theorem len_l : bltD .len [.lst xs] = some (false, .int xs.length) := rfl
theorem len_t : bltD .len [.tup xs] = some (false, .int xs.length) := rfl
theorem list_l : bltD .list [.lst xs] = some (true, .lst xs) := rfl
theorem list_t : bltD .list [.tup xs] = some (true, .lst xs) := rfl
theorem tuple_l : bltD .tuple [.lst xs] = some (false, .tup xs) := rfl
theorem tuple_t : bltD .tuple [.tup xs] = some (false, .tup xs) := rfl
theorem ix_l : ixD (.lst xs) (.int i) = atD xs i := rfl
theorem ix_t : ixD (.tup xs) (.int i) = atD xs i := rfl
theorem slc_l : slcD (.lst xs) l h = some (.lst (cutD xs l h)) := rfl
theorem slc_t : slcD (.tup xs) l h = some (.tup (cutD xs l h)) := rfl
end
theorem atD_natP {xs : List D} {i : Nat} : atD xs (i : Int) = xs[i]? := by
  unfold atD atI ixN
  rw [if_pos (by omega)]
  by_cases h : i < xs.length
  · rw [if_pos (by omega)]; simp
  · rw [if_neg (by omega), List.getElem?_eq_none (by omega)]; rfl
theorem at_0 {x : D} {xs : List D} : atD (x :: xs) 0 = some x := atD_natP (i := 0)
theorem at_1 {x y : D} {xs : List D} : atD (x :: y :: xs) 1 = some y := atD_natP (i := 1)
theorem at_2 {x y z : D} {xs : List D} : atD (x :: y :: z :: xs) 2 = some z := atD_natP (i := 2)
theorem at_m1 {xs : List D} {x : D} : atD (xs ++ [x]) (-1) = some x := by
  unfold atD atI ixN
  rw [if_neg (by omega), if_pos (by simp; omega)]
  have : (-1 + ((xs ++ [x]).length : Int)).toNat = xs.length := by simp; omega
  rw [Option.bind_some, this]; simp
theorem at_map {α : Type} {F : α → D} {xs : List α} {i : Nat} (h : i < xs.length) : atD (xs.map F) (i : Int) = some (F xs[i]) := by
  rw [atD_natP, List.getElem?_map, List.getElem?_eq_getElem h]; rfl
theorem sz0 : (0 : Nat) ≤ SZ := by unfold SZ; omega
theorem sz1 : 1 ≤ SZ := by unfold SZ; omega
theorem sz2 : 2 ≤ SZ := by unfold SZ; omega
theorem sz3 : 3 ≤ SZ := by unfold SZ; omega
theorem sz4 : 4 ≤ SZ := by unfold SZ; omega
theorem sz5 : 5 ≤ SZ := by unfold SZ; omega
theorem sz6 : 6 ≤ SZ := by unfold SZ; omega
theorem sz7 : 7 ≤ SZ := by unfold SZ; omega
theorem sz8 : 8 ≤ SZ := by unfold SZ; omega
theorem szN {n : Nat} : (n ≤ SZ) = (n ≤ 16777216) := rfl
theorem intsOf_mapP : ∀ xs : List Int, intsOf (xs.map D.int) = some xs
  | [] => rfl
  | x :: xs => by simp only [List.map_cons, intsOf, intsOf_mapP xs, Option.map_some]
theorem blsOf_mapP : ∀ xs : List Bool, blsOf (xs.map D.bl) = some xs
  | [] => rfl
  | x :: xs => by simp only [List.map_cons, blsOf, blsOf_mapP xs, Option.map_some]
theorem sum_ints {xs : List Int} : bltD .sum [.lst (xs.map D.int)] = some (false, .int xs.sum) := by simp only [bltD, intsOf_mapP, Option.map_some]
theorem max_ints {xs : List Int} (h : xs ≠ []) : bltD .max [.lst (xs.map D.int)] = some (false, .int (maxI xs)) := by
  cases xs with
  | nil => exact absurd rfl h
  | cons x xs => simp only [bltD, intsOf_mapP]
theorem min_ints {xs : List Int} (h : xs ≠ []) : bltD .min [.lst (xs.map D.int)] = some (false, .int (minI xs)) := by
  cases xs with
  | nil => exact absurd rfl h
  | cons x xs => simp only [bltD, intsOf_mapP]
theorem all_bls {xs : List Bool} : bltD .all [.lst (xs.map D.bl)] = some (false, .bl (xs.all id)) := by simp only [bltD, blsOf_mapP, Option.map_some]
theorem any_bls {xs : List Bool} : bltD .any [.lst (xs.map D.bl)] = some (false, .bl (xs.any id)) := by simp only [bltD, blsOf_mapP, Option.map_some]
theorem sorted_ints {xs : List Int} {b : Bool} : bltD .sorted [sq b (xs.map D.int)] = some (true, .lst ((sortI xs).map D.int)) := by cases b <;> simp only [sq, bltD, intsOf_mapP, Option.map_some, if_true, if_false, Bool.false_eq_true]
theorem sorted_intsL {xs : List Int} : bltD .sorted [.lst (xs.map D.int)] = some (true, .lst ((sortI xs).map D.int)) := sorted_ints (b := true)
/-- all of a comprehension's outcomes -/
theorem all_map {α : Type} {xs : List α} {p : α → Bool} : bltD .all [.lst (xs.map fun x => .bl (p x))] = some (false, .bl (xs.all p)) := by
  have e : (xs.map fun x => D.bl (p x)) = (xs.map p).map D.bl := by simp
  rw [e, all_bls]; simp [List.all_map, Function.comp_def]
theorem any_map {α : Type} {xs : List α} {p : α → Bool} : bltD .any [.lst (xs.map fun x => .bl (p x))] = some (false, .bl (xs.any p)) := by
  have e : (xs.map fun x => D.bl (p x)) = (xs.map p).map D.bl := by simp
  rw [e, any_bls]; simp [List.any_map, Function.comp_def]
theorem sum_map {α : Type} {xs : List α} {f : α → Int} : bltD .sum [.lst (xs.map fun x => .int (f x))] = some (false, .int (xs.map f).sum) := by
  have e : (xs.map fun x => D.int (f x)) = (xs.map f).map D.int := by simp
  rw [e, sum_ints]
theorem max_map {α : Type} {xs : List α} {f : α → Int} (h : xs ≠ []) : bltD .max [.lst (xs.map fun x => .int (f x))] = some (false, .int (maxI (xs.map f))) := by
  have e : (xs.map fun x => D.int (f x)) = (xs.map f).map D.int := by simp
  rw [e, max_ints (by simpa using h)]
theorem min_map {α : Type} {xs : List α} {f : α → Int} (h : xs ≠ []) : bltD .min [.lst (xs.map fun x => .int (f x))] = some (false, .int (minI (xs.map f))) := by
  have e : (xs.map fun x => D.int (f x)) = (xs.map f).map D.int := by simp
  rw [e, min_ints (by simpa using h)]
/-! zip, enumerate, range of mapped things -/
theorem zip_map {α β : Type} {F : α → D} {G : β → D} : ∀ {xs : List α} {ys : List β}, zipD (xs.map F) (ys.map G) = (xs.zip ys).map fun p => .tup [F p.1, G p.2]
  | [], _ => by simp [zipD]
  | _ :: _, [] => by simp [zipD]
  | x :: xs, y :: ys => by simp only [List.map_cons, zipD, zip_map, List.zip_cons_cons]
def enmP {α : Type} (k : Int) : List α → List (Int × α)
  | [] => []
  | x :: xs => (k, x) :: enmP (k + 1) xs
theorem enm_map {α : Type} {F : α → D} : ∀ {xs : List α} {k : Int}, enmD k (xs.map F) = (enmP k xs).map fun p => .tup [.int p.1, F p.2]
  | [], _ => rfl
  | x :: xs, k => by simp only [List.map_cons, enmD, enmP, enm_map]
theorem enmP_eq {α : Type} : ∀ {xs : List α} {k : Int}, enmP k xs = xs.zipIdx.map fun p => (k + (p.2 : Int), p.1)
  | [], _ => rfl
  | x :: xs, k => by
    simp only [enmP, List.zipIdx_cons, List.map_cons]
    rw [enmP_eq, Nat.zero_add]
    congr 1
    · simp
    rw [List.zipIdx_succ]
    simp only [List.map_map, Function.comp_def]
    apply List.map_congr_left
    rintro ⟨a, n⟩ _
    simp only [Prod.mk.injEq, and_true]
    omega
def natsD (m : Nat) : List D := (List.range m).map fun (k : Nat) => .int (k : Int)
theorem rng_nat {m : Nat} (h : m ≤ 1000000) : rngD [.int (m : Int)] = some ((List.range m).map fun (k : Nat) => D.int (k : Int)) := by
  have : rOk (m : Int) = true := rOk_iff.mpr (by unfold SZ; omega)
  simp only [rngD, if_pos this, Int.toNat_natCast]
theorem rng_2 {a b : Nat} (ha : a ≤ 1000000) (hb : b ≤ 1000000) : rngD [.int (a : Int), .int (b : Int)] = some ((List.range (b - a)).map fun (k : Nat) => D.int ((a + k : Nat) : Int)) := by
  have h : (rOk (a : Int) && rOk (b : Int) && dOk (a : Int) (b : Int)) = true := by
    have hz : (SZ : Int) = 16777216 := rfl
    rw [Bool.and_eq_true, Bool.and_eq_true, rOk_iff, rOk_iff, dOk_iff]; omega
  simp only [rngD]
  rw [if_pos h]
  have e : ((b : Int) - (a : Int)).toNat = b - a := by omega
  rw [e]
  congr 1
/-! draws -/
structure StK (k : Nat) (t : Stm) : Prop where
  a : 0 ≤ t.cnt
  b : t.cnt + k < cntMax
  c : 0 ≤ t.mix
  d : t.mix < 2147483629
theorem StK.le {k l : Nat} {t : Stm} (h : StK k t) (hl : l ≤ k) : StK l t := ⟨h.a, by have := h.b; omega, h.c, h.d⟩
theorem drawGo_mixP : ∀ (cs : List Int) (cur mix : Int), 0 ≤ mix → mix < 2147483629 → 0 ≤ (drawGo cs cur mix).2.2 ∧ (drawGo cs cur mix).2.2 < 2147483629
  | [], cur, mix, h1, h2 => ⟨h1, h2⟩
  | x :: xs, cur, mix, h1, h2 => by
    unfold drawGo
    split
    · exact drawGo_mixP xs _ _ (Int.emod_nonneg _ (by decide)) (Int.emod_lt_of_pos _ (by decide))
    · exact ⟨h1, h2⟩
theorem draw_okP {k : Nat} {t : Stm} {many : Int} (h : StK (k + 1) t) (h1 : 0 < many) (h2 : many < 1000000000) : ∃ i t', draw t many = some (i, t') ∧ 0 ≤ i ∧ i < many ∧ StK k t' := by
  obtain ⟨a, b, c, d⟩ := h
  have hm := drawGo_mixP t.cells t.cur t.mix c d
  unfold draw
  rw [if_pos ⟨h1, h2, a, by omega, c, d⟩]
  generalize drawGo t.cells t.cur t.mix = z at hm
  obtain ⟨cs, cur, mix⟩ := z
  dsimp only at hm ⊢
  split
  · exact ⟨_, _, rfl, Int.emod_nonneg _ (by omega), Int.emod_lt_of_pos _ h1, ⟨by show 0 ≤ t.cnt + 1; omega, by show t.cnt + 1 + k < cntMax; omega, hm.1, hm.2⟩⟩
  · exact ⟨_, _, rfl, Int.emod_nonneg _ (by omega), Int.emod_lt_of_pos _ h1, ⟨by show 0 ≤ t.cnt + 1; omega, by show t.cnt + 1 + k < cntMax; omega, hm.1, hm.2⟩⟩
/-- a draw from the only stream -/
theorem call_drawP {P : Pg} {n k : Nat} {m : Nat} {t : Stm} (h : List.lookup ("_law_draw" : Str) (P : List (Str × Fd)) = none) (ht : StK (k + 1) t) (h1 : 0 < m) (h2 : m < 1000000000) :
    ∃ (i : Nat) (t' : Stm), callP P (n + 1) "_law_draw" [.stm 0, .int (m : Int)] [t] = .ok (.int (i : Int)) [t'] ∧ i < m ∧ StK k t' := by
  obtain ⟨i, t', e, a, b, c⟩ := draw_okP ht (many := (m : Int)) (by omega) (by omega)
  refine ⟨i.toNat, t', ?_, by omega, c⟩
  have h : List.lookup ("_law_draw" : Str) P = none := h
  have e3 : ([t] : List Stm)[0]? = some t := rfl
  have e4 : ("_law_draw" : Str) = nDraw := rfl
  have e5 : ((i.toNat : Nat) : Int) = i := by omega
  simp only [callP, h]
  simp only [pPrim, e4, if_true, e3, e, e5]
  rfl
end Sd

/-! Px3: draws in comprehensions and loops; texts of data. -/
namespace Sd
open PySem PySem.Spec PyProof.Rows L2
section
variable {cl : PCaller} {sg : Sig}
/-- a comprehension each of whose turns draws b times at most -/
theorem plc_draws {α : Type} {e : IE} {ts : List Nat} {one : Bool} {env : List (Option D)} {t : Stm} {k : Nat} (xs : List α) (F : α → D) (Q : α → D → Prop) (b : Nat) (hl : xs.length ≤ SZ)
    (h : ∀ x ∈ xs, ∀ k t, StK (k + b) t → ∃ d e' t', plT cl sg e ts one [] (F x) ⟨wipeP env ts, [t]⟩ = .ok (some d) ⟨e', [t']⟩ ∧ Q x d ∧ StK k t' ∧ wipeP e' ts = wipeP env ts)
    (ht : StK (k + b * xs.length) t) : ∃ ds t', plc cl sg e ts one [] (xs.map F) ⟨env, [t]⟩ = .ok (.lst ds) ⟨env, [t']⟩ ∧ ds.length = xs.length ∧ (∀ p ∈ xs.zip ds, Q p.1 p.2) ∧ StK k t' := by
  have go := plc_wp (cl := cl) (sg := sg) (e := e) (ts := ts) (one := one) (cs := []) F (fun x od => ∃ d, od = some d ∧ Q x d) (fun n s => ∃ t, s = [t] ∧ StK (k + b * n) t) (e1 := wipeP env ts) xs
    (fun x hx n s ⟨t, hs, ht⟩ => by
      subst hs
      have e2 : k + b * (n + 1) = (k + b * n) + b := by rw [Nat.mul_succ]; omega
      rw [e2] at ht
      obtain ⟨d, e', t', h1, h2, h3, h4⟩ := h x hx _ t ht
      exact ⟨some d, ⟨e', [t']⟩, h1, ⟨d, rfl, h2⟩, ⟨t', rfl, h3⟩, h4⟩) env [t] 0 ⟨t, rfl, by simpa using ht⟩ rfl
  obtain ⟨ods, e', s', k1, k2, k3, ⟨t', k4, k5⟩, k6⟩ := go
  have all : ∀ (xs : List α) (ods : List (Option D)), ods.length = xs.length → (∀ p ∈ xs.zip ods, ∃ d, p.2 = some d ∧ Q p.1 d) → (ods.filterMap id).length = xs.length ∧ ∀ p ∈ xs.zip (ods.filterMap id), Q p.1 p.2 := fun xs => by
    induction xs with
    | nil => intro ods hl _; cases ods with
      | nil => exact ⟨rfl, fun p hp => by simp at hp⟩
      | cons _ _ => simp at hl
    | cons x xs ih =>
      intro ods hl hq
      cases ods with
      | nil => simp at hl
      | cons od ods =>
        obtain ⟨d, hd, hq1⟩ := hq (x, od) (by simp)
        dsimp only at hd; subst hd
        obtain ⟨i1, i2⟩ := ih ods (by simpa using hl) (fun p hp => hq p (by rw [List.zip_cons_cons]; exact List.mem_cons_of_mem _ hp))
        have e : (some d :: ods).filterMap id = d :: ods.filterMap id := by simp
        rw [e]
        refine ⟨by simp [i1], fun p hp => ?_⟩
        rw [List.zip_cons_cons] at hp
        rcases List.mem_cons.mp hp with rfl | hp
        · exact hq1
        · exact i2 p hp
  obtain ⟨a1, a2⟩ := all xs ods k2 k3
  subst k4
  refine ⟨ods.filterMap id, t', ?_, a1, a2, by simpa using k5⟩
  unfold plc
  rw [if_pos (by rw [List.length_map]; exact hl), k1]
  show PO.ok _ _ = _
  congr 2
  exact wipe_back k6
end
theorem zip_all {α β : Type} {P : β → Prop} {xs : List α} {ys : List β} (hl : ys.length = xs.length) (h : ∀ p ∈ xs.zip ys, P p.2) : ∀ y ∈ ys, P y := by
  intro y hy
  obtain ⟨i, hi, rfl⟩ := List.getElem_of_mem hy
  have : (xs[i]'(by omega), ys[i]) ∈ xs.zip ys := by
    have hz : i < (xs.zip ys).length := by simp; omega
    have := List.getElem_mem hz
    simpa using this
  exact h _ this
theorem ints_of {P : Int → Prop} : ∀ {ds : List D}, (∀ d ∈ ds, ∃ i, d = .int i ∧ P i) → ∃ is : List Int, ds = is.map .int ∧ ∀ i ∈ is, P i
  | [], _ => ⟨[], rfl, fun _ h => by cases h⟩
  | d :: ds, h => by
    obtain ⟨i, rfl, hi⟩ := h d List.mem_cons_self
    obtain ⟨is, rfl, h2⟩ := ints_of fun d hd => h d (List.mem_cons_of_mem _ hd)
    exact ⟨i :: is, rfl, fun j hj => by
      rcases List.mem_cons.mp hj with rfl | hj
      · exact hi
      · exact h2 j hj⟩
theorem perm_ints {ys : List D} {xs : List Int} (h : ys.Perm (xs.map .int)) : ∃ zs : List Int, ys = zs.map .int ∧ zs.Perm xs := by
  obtain ⟨zs, rfl, _⟩ := ints_of (P := fun _ => True) (ds := ys) (fun d hd => by
    obtain ⟨i, _, rfl⟩ := List.mem_map.mp (h.mem_iff.mp hd)
    exact ⟨i, rfl, trivial⟩)
  refine ⟨zs, rfl, ?_⟩
  have inj : ∀ xs : List Int, ((xs.map D.int).map fun d => match d with | .int i => i | _ => 0) = xs := fun xs => by
    rw [List.map_map]; simp [Function.comp_def]
  have := h.map (fun d => match d with | .int i => i | _ => 0)
  rwa [inj, inj] at this
/-! ### texts of data -/
theorem tOkP_of (s : String) : PyData.strOk (Str.ofString s) = true := by
  rw [Str.ofString_eq_toList]
  unfold PyData.strOk
  rw [Array.all_eq_true_iff_forall_mem]
  intro c hc
  simp only [List.mem_toArray, List.mem_map] at hc
  obtain ⟨a, _, rfl⟩ := hc
  have := a.valid
  simp only [decide_eq_true_eq]
  rcases this with h | h
  · show a.val.toNat < _; omega
  · show a.val.toNat < _; omega
theorem tOkP_app {a b : Str} (h : PyData.strOk a = true) (k : PyData.strOk b = true) : PyData.strOk (a ++ b) = true := by
  unfold PyData.strOk at h k ⊢
  show (a.cps ++ b.cps).all _ = true
  rw [Array.all_append, h, k]; rfl
theorem tOkP_from : ∀ (ts : List Str) (k : Nat) (acc : Str), PyData.strOk acc = true → (∀ t ∈ ts, PyData.strOk t = true) → PyData.strOk (textFrom k acc ts) = true
  | [], _, _, h, _ => h
  | t :: ts, k, acc, h, ht => tOkP_from ts (k + 1) _ (tOkP_app (tOkP_app h (tOkP_of _)) (ht t List.mem_cons_self)) fun x hx => ht x (List.mem_cons_of_mem _ hx)
theorem tOkP_join : ∀ (ts : List Str), (∀ t ∈ ts, PyData.strOk t = true) → PyData.strOk (Str.join ", " ts) = true
  | [], _ => by unfold Str.join Str.empty PyData.strOk; simp
  | [t], h => h t List.mem_cons_self
  | t :: u :: ts, h => tOkP_app (tOkP_app (h t List.mem_cons_self) (tOkP_of _)) (tOkP_join (u :: ts) fun x hx => h x (List.mem_cons_of_mem _ hx))
mutual
/-- lists, tuples and integers that are not too big, so deep at most -/
def intT : Nat → D → Bool
  | _, .int i => decide (i.natAbs < 10 ^ 12)
  | n + 1, .lst xs => intTs n xs
  | n + 1, .tup xs => intTs n xs
  | _, _ => false
def intTs : Nat → List D → Bool
  | _, [] => true
  | n, d :: ds => intT n d && intTs n ds
end
mutual
theorem intT_shown : ∀ (n : Nat) (d : D), intT n d = true → PyData.strOk (toPy d).shown = true
  | _, .int i, _ => by simp only [toPy, PyData.shown]; exact tOkP_of _
  | n + 1, .lst xs, h => by
    simp only [toPy, PyData.shown]
    unfold listText
    exact tOkP_app (tOkP_from _ _ _ (tOkP_of _) (intTs_shown n xs (by simpa only [intT] using h))) (tOkP_of _)
  | n + 1, .tup xs, h => by
    simp only [toPy, PyData.shown]
    unfold tupleText
    exact tOkP_app (tOkP_app (tOkP_of _) (tOkP_join _ (intTs_shown n xs (by simpa only [intT] using h)))) (tOkP_of _)
  | 0, .lst xs, h => by simp [intT] at h
  | 0, .tup xs, h => by simp [intT] at h
  | n, .non, h => by cases n <;> simp [intT] at h
  | n, .bl _, h => by cases n <;> simp [intT] at h
  | n, .str _, h => by cases n <;> simp [intT] at h
  | n, .dic _ _, h => by cases n <;> simp [intT] at h
  | n, .stm _, h => by cases n <;> simp [intT] at h
  | n, .obj _, h => by cases n <;> simp [intT] at h
theorem intTs_shown : ∀ (n : Nat) (ds : List D), intTs n ds = true → ∀ t ∈ PyData.shownAll (toPys ds), PyData.strOk t = true
  | _, [], _ => by simp only [toPys, PyData.shownAll]; exact fun _ h => nomatch h
  | n, d :: ds, h => by
    simp only [intTs, Bool.and_eq_true] at h
    simp only [toPys, PyData.shownAll]
    intro t ht
    rcases List.mem_cons.mp ht with rfl | ht
    · exact intT_shown n d h.1
    · exact intTs_shown n ds h.2 t ht
end
mutual
theorem intT_rp : ∀ (n m : Nat) (d : D), n ≤ m → intT n d = true → rpOk m d = true ∧ wgt d + 1 ≤ 41 * nodes d
  | n, m, .int i, _, h => by
    have h : decide (i.natAbs < 10 ^ 12) = true := by cases n <;> simpa only [intT] using h
    refine ⟨by cases m <;> simp only [rpOk, h], by simp only [wgt, nodes]; omega⟩
  | n + 1, m, .lst xs, hm, h => by
    obtain ⟨m, rfl⟩ : ∃ k, m = k + 1 := ⟨m - 1, by omega⟩
    obtain ⟨h1, h2⟩ := intTs_rp n m xs (by omega) (by simpa only [intT] using h)
    refine ⟨by simp only [rpOk, h1], by simp only [wgt, nodes]; omega⟩
  | n + 1, m, .tup xs, hm, h => by
    obtain ⟨m, rfl⟩ : ∃ k, m = k + 1 := ⟨m - 1, by omega⟩
    obtain ⟨h1, h2⟩ := intTs_rp n m xs (by omega) (by simpa only [intT] using h)
    refine ⟨by simp only [rpOk, h1], by simp only [wgt, nodes]; omega⟩
  | 0, _, .lst xs, _, h => by simp [intT] at h
  | 0, _, .tup xs, _, h => by simp [intT] at h
  | n, _, .non, _, h => by cases n <;> simp [intT] at h
  | n, _, .bl _, _, h => by cases n <;> simp [intT] at h
  | n, _, .str _, _, h => by cases n <;> simp [intT] at h
  | n, _, .dic _ _, _, h => by cases n <;> simp [intT] at h
  | n, _, .stm _, _, h => by cases n <;> simp [intT] at h
  | n, _, .obj _, _, h => by cases n <;> simp [intT] at h
theorem intTs_rp : ∀ (n m : Nat) (ds : List D), n ≤ m → intTs n ds = true → rpOks m ds = true ∧ wgts ds ≤ 41 * nodess ds
  | _, _, [], _, _ => by simp [rpOks, wgts, nodess]
  | n, m, d :: ds, hm, h => by
    simp only [intTs, Bool.and_eq_true] at h
    obtain ⟨h1, h2⟩ := intT_rp n m d hm h.1
    obtain ⟨h3, h4⟩ := intTs_rp n m ds hm h.2
    simp only [rpOks, h1, h3, Bool.and_self, wgts, nodess]
    exact ⟨trivial, by omega⟩
end
/-- what repr makes of such data -/
def lookD (d : D) : D := .str (toPy d).shown
theorem repr_sq {b : Bool} {xs : List D} (h : intT 60 (sq b xs) = true) (hn : nodes (sq b xs) ≤ 20000) : bltD .repr [sq b xs] = some (false, lookD (sq b xs)) := by
  have q := intT_rp 60 60 _ (Nat.le_refl _) h
  have f : rpFit (sq b xs) = true := by
    unfold rpFit
    rw [q.1, Bool.true_and, decide_eq_true_iff]
    have := q.2
    omega
  cases b
  · simp only [sq, Bool.false_eq_true, if_false] at f ⊢; simp only [bltD, f, if_true, lookD]
  · simp only [sq, if_true] at f ⊢; simp only [bltD, f, if_true, lookD]
theorem look_ne {d : D} {n : Nat} (h : intT n d = true) : cmpD .ne (lookD d) (lookD d) = some false := by
  have e := intT_shown n d h
  have e1 : eqOk 60 (lookD d) = true := by simp only [lookD, eqOk, e]
  have e2 : eqD (lookD d) (lookD d) = true := by simp only [lookD, eqD, beq_self_eq_true]
  simp only [cmpD, e1, e2, Bool.and_self, if_true, Bool.not_true]
theorem look_eq {d : D} {n : Nat} (h : intT n d = true) : cmpD .eq (lookD d) (lookD d) = some true := by
  have e := intT_shown n d h
  have e1 : eqOk 60 (lookD d) = true := by simp only [lookD, eqOk, e]
  have e2 : eqD (lookD d) (lookD d) = true := by simp only [lookD, eqD, beq_self_eq_true]
  simp only [cmpD, e1, e2, Bool.and_self, if_true]
theorem intTs_map {α : Type} {n : Nat} {F : α → D} : ∀ {xs : List α}, (∀ x ∈ xs, intT n (F x) = true) → intTs n (xs.map F) = true
  | [], _ => by simp only [List.map_nil, intTs]
  | x :: xs, h => by
    simp only [List.map_cons, intTs, h x List.mem_cons_self, Bool.true_and]
    exact intTs_map fun y hy => h y (List.mem_cons_of_mem _ hy)
theorem intT_sq {n : Nat} {b : Bool} {xs : List D} (h : intTs n xs = true) : intT (n + 1) (sq b xs) = true := by cases b <;> simp only [sq, if_true, Bool.false_eq_true, if_false, intT, h]
theorem intT_int {n : Nat} {i : Int} (h : i.natAbs < 10 ^ 12) : intT n (.int i) = true := by cases n <;> simp only [intT, h, decide_true]
theorem nodess_ints : ∀ xs : List Int, nodess (xs.map D.int) = xs.length
  | [] => by simp only [List.map_nil, nodess, List.length_nil]
  | x :: xs => by simp only [List.map_cons, nodess, nodess_ints xs, nodes, List.length_cons]; omega
theorem nodes_sq {b : Bool} {xs : List D} : nodes (sq b xs) = 1 + nodess xs := by cases b <;> simp only [sq, if_true, Bool.false_eq_true, if_false, nodes]
theorem spOks_intsP (n : Nat) : ∀ xs : List Int, spOks n (xs.map D.int) = true
  | [] => by simp only [List.map_nil, spOks]
  | x :: xs => by
    simp only [List.map_cons, spOks, spOks_intsP n xs, Bool.and_true]
    cases n <;> simp only [spOk]
end Sd

/-! Lb: the helpers that most laws have. -/
namespace Sd
open PySem
local macro_rules | `(tactic| simp_arith [$ls,*]) => `(tactic| simp -implicitDefEqProofs only [qL_nil, qL_cons, qE_non, qE_bl, qE_int, qE_str, qE_var, qE_op2, qE_cmp, qE_chn, qE_not, qE_ite, qE_lst, qE_tup, qE_ix, qE_blt, qE_lc, qE_lrng, qCs_nil, qCs_cons, qA_nil, qA_cons, qSt_nil, qSt_cons, qP_nil, qIt_rng, qIt_e, qN_nil, qN_cons, qS_expr, qS_asg, qS_asgT, qS_par, qS_parO, qS_setIx, qS_ret, qS_retN, qS_ite, qS_for, qS_raise, qS_pass, qS_wipe, qS_scope, rS_spoil, rE_and, rE_or, rE_isN, rE_notN, rE_isa, rE_slc, rE_neg, rP_cons, rSt_star, rIt_zip, rIt_enm, rE_call, rE_callK, rE_mth, pbind_ok, pbind_exc, pbind_stuck, pw_ok, pw_exc, pw_stuck, pthen_nx, pthen_rt, pthen_exc, pthen_stuck, pOpt_some, pOk_some, endP_nx, endP_rt, endP_exc, endP_stuck, pbind_ite, pw_ite, pthen_ite, endP_ite, ite_and, ite_or, pand_bl, por_bl, pT, tru_bl, tru_int, tru_non, isNon_non, isNon_bl, isNon_int, isNon_str, isNon_l, isNon_t, isaD_non, isaD_bl, isaD_int, isaD_str, isaD_l, isaD_t, isTy, List.any_cons, List.any_nil, retP_ok, retP_exc, retP_ite, mthP_append, mthP_extend, seqOf_sq, tru_sq, isNon_sq, isaLT_sq, isaL_sq, isaT_sq, len_sq, list_sq, tuple_sq, ix_sq, slc_sq, setPg_sq, seqOf_l, seqOf_t, startP_eq, setPs, setPg_one, setPg_t, setPg_l, wipeP, backP, bin, cmp_lt_i, cmp_le_i, cmp_gt_i, cmp_ge_i, cmp_eq_i, cmp_ne_i, cmp_eq_b, cmp_ne_b, abs_i, len_l, len_t, list_l, list_t, tuple_l, tuple_t, max_2, min_2, int_i, int_b, negD, intD, ix_l, ix_t, slc_l, slc_t, at_0, at_1, at_2, at_m1, List.getElem?_cons_succ, List.getElem?_cons_zero, List.set_cons_succ, List.set_cons_zero, List.length_cons, List.length_nil, List.length_map, List.length_append, List.map_cons, List.map_nil, List.cons_append, List.nil_append, List.append_nil, List.replicate_succ, List.replicate_zero, Option.bind_some, Option.getD_some, Option.getD_none, Nat.reduceAdd, Nat.reduceSub, Nat.reduceLeDiff, Nat.reduceEqDiff, Nat.sub_self, sz0, sz1, sz2, sz3, sz4, sz5, sz6, sz7, sz8, szN, if_true, if_false, ite_true, ite_false, reduceIte, Bool.false_eq_true, Bool.true_eq_false, Bool.not_true, Bool.not_false, Bool.true_and, Bool.false_and, Bool.and_true, Bool.and_false, Bool.true_or, Bool.false_or, Bool.or_true, Bool.or_false, decide_true, decide_false, reduceCtorEq, ne_eq, not_false_eq_true, implies_true, $ls,*])
local macro_rules | `(tactic| simp_arith [$ls,*] at $h:ident) => `(tactic| simp -implicitDefEqProofs only [qL_nil, qL_cons, qE_non, qE_bl, qE_int, qE_str, qE_var, qE_op2, qE_cmp, qE_chn, qE_not, qE_ite, qE_lst, qE_tup, qE_ix, qE_blt, qE_lc, qE_lrng, qCs_nil, qCs_cons, qA_nil, qA_cons, qSt_nil, qSt_cons, qP_nil, qIt_rng, qIt_e, qN_nil, qN_cons, qS_expr, qS_asg, qS_asgT, qS_par, qS_parO, qS_setIx, qS_ret, qS_retN, qS_ite, qS_for, qS_raise, qS_pass, qS_wipe, qS_scope, rS_spoil, rE_and, rE_or, rE_isN, rE_notN, rE_isa, rE_slc, rE_neg, rP_cons, rSt_star, rIt_zip, rIt_enm, rE_call, rE_callK, rE_mth, pbind_ok, pbind_exc, pbind_stuck, pw_ok, pw_exc, pw_stuck, pthen_nx, pthen_rt, pthen_exc, pthen_stuck, pOpt_some, pOk_some, endP_nx, endP_rt, endP_exc, endP_stuck, pbind_ite, pw_ite, pthen_ite, endP_ite, ite_and, ite_or, pand_bl, por_bl, pT, tru_bl, tru_int, tru_non, isNon_non, isNon_bl, isNon_int, isNon_str, isNon_l, isNon_t, isaD_non, isaD_bl, isaD_int, isaD_str, isaD_l, isaD_t, isTy, List.any_cons, List.any_nil, retP_ok, retP_exc, retP_ite, mthP_append, mthP_extend, seqOf_sq, tru_sq, isNon_sq, isaLT_sq, isaL_sq, isaT_sq, len_sq, list_sq, tuple_sq, ix_sq, slc_sq, setPg_sq, seqOf_l, seqOf_t, startP_eq, setPs, setPg_one, setPg_t, setPg_l, wipeP, backP, bin, cmp_lt_i, cmp_le_i, cmp_gt_i, cmp_ge_i, cmp_eq_i, cmp_ne_i, cmp_eq_b, cmp_ne_b, abs_i, len_l, len_t, list_l, list_t, tuple_l, tuple_t, max_2, min_2, int_i, int_b, negD, intD, ix_l, ix_t, slc_l, slc_t, at_0, at_1, at_2, at_m1, List.getElem?_cons_succ, List.getElem?_cons_zero, List.set_cons_succ, List.set_cons_zero, List.length_cons, List.length_nil, List.length_map, List.length_append, List.map_cons, List.map_nil, List.cons_append, List.nil_append, List.append_nil, List.replicate_succ, List.replicate_zero, Option.bind_some, Option.getD_some, Option.getD_none, Nat.reduceAdd, Nat.reduceSub, Nat.reduceLeDiff, Nat.reduceEqDiff, Nat.sub_self, sz0, sz1, sz2, sz3, sz4, sz5, sz6, sz7, sz8, szN, if_true, if_false, ite_true, ite_false, reduceIte, Bool.false_eq_true, Bool.true_eq_false, Bool.not_true, Bool.not_false, Bool.true_and, Bool.false_and, Bool.and_true, Bool.and_false, Bool.true_or, Bool.false_or, Bool.or_true, Bool.or_false, decide_true, decide_false, reduceCtorEq, ne_eq, not_false_eq_true, implies_true, $ls,*] at $h:ident)
theorem sg_of {P : Pg} {f : Str} {fd : Fd} (h : List.lookup f (P : List (Str × Fd)) = some fd) : sgOf P f = fd.ps := by
  have h : List.lookup f P = some fd := h
  unfold sgOf; rw [h]
theorem sg_draw {P : Pg} (h : List.lookup ("_law_draw" : Str) (P : List (Str × Fd)) = none) : sgOf P "_law_draw" = (["stream", "many"] : List Str) := by
  have h : List.lookup ("_law_draw" : Str) P = none := h
  unfold sgOf; rw [h]; rfl
abbrev NoDraw (P : Pg) : Prop := List.lookup ("_law_draw" : Str) (P : List (Str × Fd)) = none
abbrev Has (P : Pg) (f : Str) (fd : Fd) : Prop := List.lookup f (P : List (Str × Fd)) = some fd
/-! ### pick -/
def fPick : Fd := ⟨["stream", "things"], ["stream", "things"], [(.ret (.ix (.var 1) (.call "_law_draw" [(.var 0), (.blt .len [(.var 1)])] [] [])))]⟩
theorem c_pick {P : Pg} (hD : NoDraw P) (hP : Has P "_law_pick" fPick) {n k : Nat} {t : Stm} {xs : List D} (ht : StK (k + 1) t) (h1 : xs ≠ []) (h2 : xs.length ≤ 16777216) (b : Bool := true) :
    ∃ x t', callP P (n + 2) "_law_pick" [.stm 0, sq b xs] [t] = .ok x [t'] ∧ x ∈ xs ∧ StK k t' := by
  have hl : 0 < xs.length := List.length_pos_iff.mpr h1
  obtain ⟨i, t', e, a, c⟩ := call_drawP (n := n) hD ht hl (by omega)
  have ea : atD xs (i : Int) = some xs[i] := by rw [atD_natP, List.getElem?_eq_getElem a]
  refine ⟨xs[i], t', ?_, List.getElem_mem _, c⟩
  rw [callP_eq hP rfl]
  simp_arith [fPick, sg_draw hD, e, ea]
/-! ### same -/
def fSame : Fd := ⟨["found", "due"], ["found", "due", "mine", "theirs"], [
    (.ite (.isa (.var 1) [.list, .tuple]) [(.ite (.or (.cmp .ne (.isa (.var 0) [.list]) (.isa (.var 1) [.list])) (.cmp .ne (.isa (.var 0) [.tuple]) (.isa (.var 1) [.tuple]))) [(.ret (.bl false))] []), (.ret (.and (.cmp .eq (.blt .len [(.var 0)]) (.blt .len [(.var 1)])) (.blt .all [(.lc (.call "_law_same" [(.var 2), (.var 3)] [] []) [2, 3] false (.zip (.var 0) (.var 1)) [])])))] []),
    (.ite (.isa (.var 1) [.dict]) [(.ret (.and (.isa (.var 0) [.dict]) (.call "_law_same" [(.blt .list [.never]), (.blt .list [.never])] [] [])))] []),
    (.ite (.or (.isa (.var 1) [.bool]) (.isa (.var 0) [.bool])) [(.ret (.and (.isa (.var 1) [.bool]) (.and (.isa (.var 0) [.bool]) (.cmp .eq (.var 0) (.var 1)))))] []),
    (.ite (.or (.isN (.var 1)) (.isN (.var 0))) [(.ret (.and (.isN (.var 1)) (.isN (.var 0))))] []),
    (.ite (.or (.cmp .ne (.isa (.var 1) [.int]) (.isa (.var 0) [.int])) (.cmp .ne (.isa (.var 1) [.str]) (.isa (.var 0) [.str]))) [(.ret (.bl false))] []),
    (.ret (.and (.not (.isa (.var 0) [.list, .tuple, .dict])) (.cmp .eq (.var 0) (.var 1))))]⟩
mutual
/-- what `_law_same` serves, so deep at most -/
def smOk : Nat → D → Bool
  | _, .non => true
  | _, .bl _ => true
  | _, .int _ => true
  | _, .str x => PyData.strOk x
  | n + 1, .lst xs => decide (xs.length ≤ SZ) && smOks n xs
  | n + 1, .tup xs => decide (xs.length ≤ SZ) && smOks n xs
  | _, _ => false
def smOks : Nat → List D → Bool
  | _, [] => true
  | n, d :: ds => smOk n d && smOks n ds
end
theorem smOks_mem : ∀ {n : Nat} {ds : List D} {d : D}, smOks n ds = true → d ∈ ds → smOk n d = true
  | n, e :: ds, d, h, hm => by
    simp only [smOks, Bool.and_eq_true] at h
    rcases List.mem_cons.mp hm with rfl | hm
    · exact h.1
    · exact smOks_mem h.2 hm
theorem cmp_eq_s {x : Str} (h : PyData.strOk x = true) : cmpD .eq (.str x) (.str x) = some true := by
  have e1 : eqOk 60 (.str x) = true := by simp only [eqOk, h]
  have e2 : eqD (.str x) (.str x) = true := by simp only [eqD, beq_self_eq_true]
  simp only [cmpD, e1, e2, Bool.and_self, if_true]
theorem zipD_selfP : ∀ xs : List D, zipD xs xs = xs.map fun x => .tup [x, x]
  | [] => rfl
  | x :: xs => by simp only [zipD, List.map_cons, zipD_selfP xs]
theorem same_sq {P : Pg} (hP : Has P "_law_same" fSame) {n : Nat} {xs : List D} {s : List Stm} {b : Bool} (hl : xs.length ≤ SZ) (ih : ∀ x ∈ xs, callP P (n + 1) "_law_same" [x, x] s = .ok (.bl true) s) : callP P (n + 2) "_law_same" [sq b xs, sq b xs] s = .ok (.bl true) s := by
  rw [callP_eq hP rfl]
  simp_arith [fSame, beq_self_eq_true, zipD_selfP]
  rw [plc_map xs (fun x => .tup [x, x]) (fun _ => .bl true) hl ?h1]
  case h1 =>
    intro x hx
    simp only [plT]
    simp_arith [sg_of hP, ih x hx, fSame, CT, true_and]
  rw [pbind_ok, pbind_ok, all_map]
  simp_arith [List.all_eq_true]
  simp
theorem c_same {P : Pg} (hP : Has P "_law_same" fSame) : ∀ (k : Nat) (d : D) (n : Nat) (s : List Stm), smOk k d = true → callP P (n + k + 1) "_law_same" [d, d] s = .ok (.bl true) s
  | k, .non, n, s, h => by
    rw [callP_eq hP rfl]
    simp_arith [fSame]
  | k, .bl b, n, s, h => by
    rw [callP_eq hP rfl]
    simp_arith [fSame, beq_self_eq_true]
  | k, .int b, n, s, h => by
    rw [callP_eq hP rfl]
    simp_arith [fSame, beq_self_eq_true]
  | k, .str b, n, s, h => by
    have h : PyData.strOk b = true := by cases k <;> simpa only [smOk] using h
    rw [callP_eq hP rfl]
    simp_arith [fSame, beq_self_eq_true, cmp_eq_s h]
  | k + 1, .lst xs, n, s, h => by
    simp only [smOk, Bool.and_eq_true, decide_eq_true_eq] at h
    exact same_sq hP (b := true) h.1 fun x hx => c_same hP k x n s (smOks_mem h.2 hx)
  | k + 1, .tup xs, n, s, h => by
    simp only [smOk, Bool.and_eq_true, decide_eq_true_eq] at h
    exact same_sq hP (b := false) h.1 fun x hx => c_same hP k x n s (smOks_mem h.2 hx)
  | 0, .lst xs, n, s, h => by simp [smOk] at h
  | 0, .tup xs, n, s, h => by simp [smOk] at h
  | k, .dic _ _, n, s, h => by cases k <;> simp [smOk] at h
  | k, .stm _, n, s, h => by cases k <;> simp [smOk] at h
  | k, .obj _, n, s, h => by cases k <;> simp [smOk] at h
theorem smOks_map {α : Type} {n : Nat} {F : α → D} : ∀ {xs : List α}, (∀ x ∈ xs, smOk n (F x) = true) → smOks n (xs.map F) = true
  | [], _ => by simp only [List.map_nil, smOks]
  | x :: xs, h => by
    simp only [List.map_cons, smOks, h x List.mem_cons_self, Bool.true_and]
    exact smOks_map fun y hy => h y (List.mem_cons_of_mem _ hy)
theorem smOk_int {n : Nat} {i : Int} : smOk n (.int i) = true := by cases n <;> simp only [smOk]
theorem smOk_bl {n : Nat} {i : Bool} : smOk n (.bl i) = true := by cases n <;> simp only [smOk]
theorem smOk_non {n : Nat} : smOk n .non = true := by cases n <;> simp only [smOk]
theorem smOk_l {n : Nat} {xs : List D} (h : xs.length ≤ SZ) (k : ∀ x ∈ xs, smOk n x = true) : smOk (n + 1) (.lst xs) = true := by
  simp only [smOk, Bool.and_eq_true, decide_eq_true_eq]
  refine ⟨h, ?_⟩
  have := smOks_map (F := id) k
  simpa using this
theorem smOk_t {n : Nat} {xs : List D} (h : xs.length ≤ SZ) (k : ∀ x ∈ xs, smOk n x = true) : smOk (n + 1) (.tup xs) = true := by
  simp only [smOk, Bool.and_eq_true, decide_eq_true_eq]
  refine ⟨h, ?_⟩
  have := smOks_map (F := id) k
  simpa using this
/-! ### loose, of a list of integers -/
def fLoose : Fd := ⟨["stream", "thing"], ["stream", "thing", "some", "one"], [
    (.ite (.isa (.var 1) [.list, .tuple]) [(.asg 2 false (.lc (.call "_law_loose" [(.var 0), (.var 3)] [] []) [3] true (.e (.var 1)) [])), (.ret (.ite (.cmp .eq (.call "_law_draw" [(.var 0), (.int (2))] [] []) (.int (0))) (.var 2) (.blt .tuple [(.var 2)])))] []),
    (.ret (.var 1))]⟩
theorem loose_int {P : Pg} (hP : Has P "_law_loose" fLoose) {n g : Nat} {i : Int} {s : List Stm} : callP P (n + 1) "_law_loose" [.stm g, .int i] s = .ok (.int i) s := by
  rw [callP_eq hP rfl]
  simp_arith [fLoose]
theorem c_loose {P : Pg} (hD : NoDraw P) (hP : Has P "_law_loose" fLoose) {n k : Nat} {t : Stm} {xs : List Int} {b : Bool} (ht : StK (k + 1) t) (hl : xs.length ≤ 16777216) :
    ∃ b' t', callP P (n + 2) "_law_loose" [.stm 0, sq b (xs.map .int)] [t] = .ok (sq b' (xs.map .int)) [t'] ∧ StK k t' := by
  obtain ⟨i, t', e, a, c⟩ := call_drawP (n := n) (m := 2) hD ht (by omega) (by omega)
  have e : callP P (n + 1) "_law_draw" [.stm 0, .int 2] [t] = .ok (.int (i : Int)) [t'] := e
  refine ⟨i == 0, t', ?_, c⟩
  rw [callP_eq hP rfl]
  simp_arith [fLoose]
  rw [plc_map xs D.int D.int (by unfold SZ; omega) ?h1]
  case h1 =>
    intro x hx
    simp only [plT]
    simp_arith [sg_of hP, loose_int hP, fLoose, CT, and_self]
  simp_arith [sg_draw hD, e]
  have : i = 0 ∨ i = 1 := by omega
  rcases this with rfl | rfl <;> rfl
/-! ### mixed -/
def fMixed : Fd := ⟨["stream", "things"], ["stream", "things", "left", "found", "k"], [
    (.parO [2, 3] [(true, (.blt .list [(.var 1)])), (true, (.lst []))]),
    (.for [4] true (.rng [(.blt .len [(.var 2)])]) [(.expr (.mth .append 3 [(.mth .pop 2 [(.call "_law_draw" [(.var 0), (.blt .len [(.var 2)])] [] [])])])), (.wipe [4])]),
    (.ret (.var 3))]⟩
theorem mthP_pop {i j : Nat} {d : D} {xs : List D} {e : List (Option D)} {s : List Stm} (h : xs[j]? = some d) (hj : j ≤ 16777216) : mthP .pop i [.int (j : Int)] (some (some (.lst xs))) ⟨e, s⟩ = .ok d ⟨e.set i (some (.lst (xs.eraseIdx j))), s⟩ := by
  have hl : j < xs.length := (List.getElem?_eq_some_iff.mp h).1
  have e1 : L2.ixN xs.length (j : Int) = some j := by unfold L2.ixN; rw [if_pos (by omega), if_pos (by omega)]; rfl
  have e2 : (j : Int).natAbs ≤ SZ := by unfold SZ; omega
  unfold mthP
  simp only [mthD, e1, h, if_pos e2]
theorem perm_erase {α : Type} : ∀ {xs : List α} {i : Nat} {x : α}, xs[i]? = some x → (x :: xs.eraseIdx i).Perm xs
  | [], _, _, h => by simp at h
  | y :: xs, 0, x, h => by simp at h; subst h; simp
  | y :: xs, i + 1, x, h => by
    simp only [List.getElem?_cons_succ] at h
    simp only [List.eraseIdx_cons_succ]
    exact (List.Perm.swap y x _).trans ((perm_erase h).cons y)
theorem c_mixed {P : Pg} (hD : NoDraw P) (hP : Has P "_law_mixed" fMixed) {n k : Nat} {t : Stm} {xs : List D} {b : Bool} (ht : StK (k + xs.length) t) (hl : xs.length ≤ 1000000) :
    ∃ ys t', callP P (n + 2) "_law_mixed" [.stm 0, sq b xs] [t] = .ok (.lst ys) [t'] ∧ ys.Perm xs ∧ StK k t' := by
  have q : ∃ d s', callP P (n + 2) "_law_mixed" [.stm 0, sq b xs] [t] = .ok d s' ∧ ∃ ys t', d = .lst ys ∧ s' = [t'] ∧ ys.Perm xs ∧ StK k t' := by
    refine call_ex hP rfl ?_
    simp only [fMixed]
    refine PW.gen fun T hN hR hX => ?_
    simp_arith []
    refine hN _ ?_
    refine PW.for (fun rest c => ∃ left found t', c = ⟨[some (.stm 0), some (sq b xs), some (.lst left), some (.lst found), none], [t']⟩ ∧ left.length = rest.length ∧ (found ++ left).Perm xs ∧ StK (k + rest.length) t') (by simp_arith [rng_nat hl]; rfl) ⟨xs, [], t, rfl, by simp, by simp, by simpa using ht⟩ ?_ ?_
    · rintro x rest c ⟨left, found, t', rfl, h1, h2, h3⟩
      have hlen : found.length + left.length = xs.length := by rw [← List.length_append]; exact h2.length_eq
      have h3' : StK ((k + rest.length) + 1) t' := by simpa [Nat.add_assoc] using h3
      have hpos : 0 < left.length := by rw [h1]; simp
      obtain ⟨i, t2, e, a, cc⟩ := call_drawP (n := n) hD h3' hpos (by omega)
      have eg : left[i]? = some left[i] := List.getElem?_eq_getElem a
      have hsz : found.length < SZ := by unfold SZ; omega
      simp only [pft]
      simp_arith [sg_draw hD, e, mthP_pop eg (by omega), hsz]
      refine ⟨left.eraseIdx i, found ++ [left[i]], t2, rfl, ?_, ?_, cc⟩
      · rw [List.length_eraseIdx, if_pos a, h1]; simp
      · refine List.Perm.trans ?_ h2
        rw [List.append_assoc]
        refine List.Perm.append_left _ ?_
        exact perm_erase eg
    · rintro c ⟨left, found, t', rfl, h1, h2, h3⟩
      have : left = [] := List.length_eq_zero_iff.mp h1
      subst this
      simp_arith []
      exact ⟨found, t', rfl, rfl, by simpa using h2, by simpa using h3⟩
  obtain ⟨d, s', e, ys, t', rfl, rfl, h1, h2⟩ := q
  exact ⟨ys, t', e, h1, h2⟩
end Sd

namespace Lk74
open PySem Sd
def i_is_list : List IS := [
    (.ret (.isa (.var 0) [.list, .tuple]))]
def i_is_whole : List IS := [
    (.ret (.and (.isa (.var 0) [.int]) (.not (.isa (.var 0) [.bool]))))]
def i_is_number : List IS := [
    (.ret (.and (.call "is_whole" [(.var 0)] [] []) (.cmp .ge (.var 0) (.int (0)))))]
def i_is_index : List IS := [
    (.ret (.and (.call "is_number" [(.var 0)] [] []) (.cmp .lt (.var 0) (.var 1))))]
def i_divisor_of : List IS := [
    (.par [0, 1] [(.blt .abs [(.var 0)]), (.blt .abs [(.var 1)])]),
    (.while (.cmp .gt (.var 1) (.int (0))) [(.par [0, 1] [(.var 1), (.op2 .mod (.var 0) (.var 1))])]),
    (.ret (.var 0))]
def i_check_bottom : List IS := [
    (.ite (.or (.not (.call "is_whole" [(.var 0)] [] [])) (.cmp .lt (.var 0) (.int (1)))) [.never] [])]
def i_check_points : List IS := [
    (.expr (.call "check_bottom" [(.var 0)] [] [])),
    (.ite (.or (.not (.call "is_list" [(.var 1)] [] [])) (.cmp .eq (.blt .len [(.var 1)]) (.int (0)))) [.never] []),
    (.asg 2 false (.lc (.var 3) [3, 4] false (.enm (.var 1) []) [(.not (.call "is_index" [(.var 4), (.var 0)] [] []))])),
    (.ite (.cmp .ne (.var 2) (.lst [])) [.never] [])]
def i_check_many : List IS := [
    (.ite (.or (.not (.call "is_whole" [(.var 0)] [] [])) (.cmp .lt (.var 0) (.int (1)))) [.never] [])]
def i_lessened : List IS := [
    (.asg 2 false (.call "divisor_of" [(.var 0), (.var 1)] [] [])),
    (.ret (.tup [(.op2 .fdiv (.var 0) (.var 2)), (.op2 .fdiv (.var 1) (.var 2))]))]
def i_gaps_of : List IS := [
    (.ret (.lc (.op2 .sub (.op2 .mul (.var 2) (.var 0)) (.op2 .mul (.var 3) (.blt .len [(.var 1)]))) [2, 3] false (.enm (.blt .sorted [(.var 1)]) [(.int (1))]) []))]
def i_star : List IS := [
    (.expr (.call "check_points" [(.var 0), (.var 1)] [] [])),
    (.asg 2 false (.call "gaps_of" [(.var 0), (.var 1)] [] [])),
    (.ret (.call "lessened" [(.blt .max [(.lst [(.star (.var 2)), (.star (.lc (.op2 .sub (.var 0) (.var 3)) [3] true (.e (.var 2)) []))])]), (.op2 .mul (.var 0) (.blt .len [(.var 1)]))] [] []))]
def i_unfair : List IS := [
    (.expr (.call "check_points" [(.var 0), (.var 1)] [] [])),
    (.asg 2 false (.call "gaps_of" [(.var 0), (.var 1)] [] [])),
    (.ret (.call "lessened" [(.op2 .sub (.op2 .add (.var 0) (.blt .max [(.var 2)])) (.blt .min [(.var 2)])), (.op2 .mul (.var 0) (.blt .len [(.var 1)]))] [] []))]
def i_best_points : List IS := [
    (.expr (.call "check_many" [(.var 0)] [] [])),
    (.ret (.tup [(.op2 .mul (.int (2)) (.var 0)), (.lc (.op2 .add (.op2 .mul (.int (2)) (.var 1)) (.int (1))) [1] true (.rng [(.var 0)]) [])]))]
def i__law_pick : List IS := [
    (.ret (.ix (.var 1) (.call "_law_draw" [(.var 0), (.blt .len [(.var 1)])] [] [])))]
def i__law_mixed : List IS := [
    (.parO [2, 3] [(true, (.blt .list [(.var 1)])), (true, (.lst []))]),
    (.for [4] true (.rng [(.blt .len [(.var 2)])]) [(.expr (.mth .append 3 [(.mth .pop 2 [(.call "_law_draw" [(.var 0), (.blt .len [(.var 2)])] [] [])])])), (.wipe [4])]),
    (.ret (.var 3))]
def i__law_same : List IS := [
    (.ite (.isa (.var 1) [.list, .tuple]) [(.ite (.or (.cmp .ne (.isa (.var 0) [.list]) (.isa (.var 1) [.list])) (.cmp .ne (.isa (.var 0) [.tuple]) (.isa (.var 1) [.tuple]))) [(.ret (.bl false))] []), (.ret (.and (.cmp .eq (.blt .len [(.var 0)]) (.blt .len [(.var 1)])) (.blt .all [(.lc (.call "_law_same" [(.var 2), (.var 3)] [] []) [2, 3] false (.zip (.var 0) (.var 1)) [])])))] []),
    (.ite (.isa (.var 1) [.dict]) [(.ret (.and (.isa (.var 0) [.dict]) (.call "_law_same" [(.blt .list [.never]), (.blt .list [.never])] [] [])))] []),
    (.ite (.or (.isa (.var 1) [.bool]) (.isa (.var 0) [.bool])) [(.ret (.and (.isa (.var 1) [.bool]) (.and (.isa (.var 0) [.bool]) (.cmp .eq (.var 0) (.var 1)))))] []),
    (.ite (.or (.isN (.var 1)) (.isN (.var 0))) [(.ret (.and (.isN (.var 1)) (.isN (.var 0))))] []),
    (.ite (.or (.cmp .ne (.isa (.var 1) [.int]) (.isa (.var 0) [.int])) (.cmp .ne (.isa (.var 1) [.str]) (.isa (.var 0) [.str]))) [(.ret (.bl false))] []),
    (.ret (.and (.not (.isa (.var 0) [.list, .tuple, .dict])) (.cmp .eq (.var 0) (.var 1))))]
def i__law_loose : List IS := [
    (.ite (.isa (.var 1) [.list, .tuple]) [(.asg 2 false (.lc (.call "_law_loose" [(.var 0), (.var 3)] [] []) [3] true (.e (.var 1)) [])), (.ret (.ite (.cmp .eq (.call "_law_draw" [(.var 0), (.int (2))] [] []) (.int (0))) (.var 2) (.blt .tuple [(.var 2)])))] []),
    (.ret (.var 1))]
def i__law_divisor : List IS := [
    (.par [0, 1] [(.blt .abs [(.var 0)]), (.blt .abs [(.var 1)])]),
    (.while (.cmp .gt (.var 1) (.int (0))) [(.par [0, 1] [(.var 1), (.op2 .mod (.blt .int [(.var 0)]) (.var 1))])]),
    (.ret (.var 0))]
def i__law_cut : List IS := [
    (.asg 2 false (.call "_law_divisor" [(.var 0), (.var 1)] [] [])),
    (.ret (.tup [(.op2 .fdiv (.var 0) (.var 2)), (.op2 .fdiv (.var 1) (.var 2))]))]
def i__law_star : List IS := [
    (.par [2, 3] [(.blt .len [(.var 1)]), (.int (0))]),
    (.for [4] true (.e (.op2 .add (.blt .sorted [(.var 1)]) (.lst [(.var 0)]))) [(.asg 5 false (.blt .len [(.lc (.var 6) [6] true (.e (.var 1)) [(.cmp .lt (.var 6) (.var 4))])])), (.asg 7 false (.blt .len [(.lc (.var 6) [6] true (.e (.var 1)) [(.cmp .le (.var 6) (.var 4))])])), (.asg 3 false (.blt .max [(.lst [(.var 3), (.blt .abs [(.op2 .sub (.op2 .mul (.var 5) (.var 0)) (.op2 .mul (.var 4) (.var 2)))]), (.blt .abs [(.op2 .sub (.op2 .mul (.var 7) (.var 0)) (.op2 .mul (.var 4) (.var 2)))])])])), (.wipe [4, 5, 7])]),
    (.ret (.call "_law_cut" [(.var 3), (.op2 .mul (.var 0) (.var 2))] [] []))]
def i__law_unfair : List IS := [
    (.parO [2, 3, 4] [(false, (.blt .len [(.var 1)])), (false, (.int (0))), (true, (.lst [(.tup [(.int (0)), (.int (0))])]))]),
    (.for [5] true (.e (.op2 .add (.var 1) (.lst [(.var 0)]))) [(.expr (.mth .extend 4 [(.lst [(.tup [(.var 5), (.int (0))]), (.tup [(.var 5), (.int (1))])])])), (.wipe [5])]),
    (.for [6] true (.e (.var 4)) [(.for [7] true (.e (.var 4)) [(.ite (.and (.cmp .le (.var 6) (.var 7)) (.cmp .le (.ix (.var 7) (.int (0))) (.var 0))) [(.asg 8 false (.blt .len [(.lc (.var 9) [9] true (.e (.var 1)) [(.chn .le .lt (.var 6) (.tup [(.var 9), (.int (0))]) (.var 7))])])), (.asg 3 false (.blt .max [(.var 3), (.blt .abs [(.op2 .sub (.op2 .mul (.var 8) (.var 0)) (.op2 .mul (.op2 .sub (.ix (.var 7) (.int (0))) (.ix (.var 6) (.int (0)))) (.var 2)))])]))] []), (.wipe [7, 8])]), (.wipe [6, 7, 8])]),
    (.ret (.call "_law_cut" [(.var 3), (.op2 .mul (.var 0) (.var 2))] [] []))]
def lawI : List IS := [
    (.par [3, 4] [(.op2 .add (.int (1)) (.call "_law_draw" [(.var 2), (.call "_law_pick" [(.var 2), (.lst [(.int (4)), (.int (12)), (.int (1000))])] [] [])] [] [])), (.op2 .add (.int (1)) (.call "_law_draw" [(.var 2), (.int (20))] [] []))]),
    (.asg 5 false (.lc (.call "_law_draw" [(.var 2), (.var 3)] [] []) [6] true (.rng [(.var 4)]) [])),
    (.ite (.cmp .eq (.call "_law_draw" [(.var 2), (.int (3))] [] []) (.int (0))) [(.asg 5 false (.call "_law_mixed" [(.var 2), (.lc (.op2 .fdiv (.op2 .mul (.var 6) (.var 3)) (.var 4)) [6] true (.rng [(.var 4)]) [])] [] []))] []),
    (.par [7, 8, 9] [(.call "_law_loose" [(.var 2), (.var 5)] [] []), (.call "_law_star" [(.var 3), (.var 5)] [] []), (.call "_law_unfair" [(.var 3), (.var 5)] [] [])]),
    (.parO [10, 11] [(false, (.blt .repr [(.var 7)])), (true, (.lst [(.call "star" [(.var 3), (.var 7)] [] []), (.call "star" [] ["points", "bottom"] [(.blt .list [(.var 5)]), (.var 3)])]))]),
    (.expr (.mth .extend 11 [(.lst [(.call "unfair" [(.var 3), (.var 7)] [] []), (.call "unfair" [] ["points", "bottom"] [(.blt .list [(.var 5)]), (.var 3)])])])),
    (.ite (.or (.not (.call "_law_same" [(.var 11), (.lst [(.var 8), (.var 8), (.var 9), (.var 9)])] [] [])) (.cmp .ne (.blt .repr [(.var 7)]) (.var 10))) [(.ret (.bl false))] []),
    (.ite (.or (.cmp .gt (.op2 .mul (.ix (.var 8) (.int (0))) (.ix (.var 9) (.int (1)))) (.op2 .mul (.ix (.var 9) (.int (0))) (.ix (.var 8) (.int (1))))) (.cmp .gt (.op2 .mul (.ix (.var 9) (.int (0))) (.ix (.var 8) (.int (1)))) (.op2 .mul (.op2 .mul (.int (2)) (.ix (.var 8) (.int (0)))) (.ix (.var 9) (.int (1)))))) [(.ret (.bl false))] []),
    (.ite (.or (.cmp .lt (.op2 .mul (.op2 .mul (.int (2)) (.var 4)) (.ix (.var 8) (.int (0)))) (.ix (.var 8) (.int (1)))) (.cmp .lt (.op2 .mul (.var 4) (.ix (.var 9) (.int (0)))) (.ix (.var 9) (.int (1))))) [(.ret (.bl false))] []),
    (.asg 12 false (.tup [(.op2 .mul (.int (2)) (.var 4)), (.lrng [(.int (1)), (.op2 .mul (.int (2)) (.var 4)), (.int (2))])])),
    (.scope [(.asg 13 false (.lst [(.call "best_points" [(.var 4)] [] []), (.call "best_points" [] ["many"] [(.var 4)])])), (.ite (.or (.not (.call "_law_same" [(.var 13), (.lst [(.var 12), (.var 12)])] [] [])) (.not (.call "_law_same" [(.call "star" [(.op2 .mul (.int (2)) (.var 4)), (.ix (.var 12) (.int (1)))] [] []), (.tup [(.int (1)), (.op2 .mul (.int (2)) (.var 4))])] [] []))) [(.ret (.bl false))] []), (.spoil (.lst [(.ix (.ix (.var 13) (.int (0))) (.int (1))), (.ix (.ix (.var 13) (.int (1))) (.int (1)))])), (.ite (.not (.call "_law_same" [(.call "best_points" [(.var 4)] [] []), (.var 12)] [] [])) [(.ret (.bl false))] [])])]
def Pr : Pg := [("is_list", ⟨["thing"], ["thing"], i_is_list⟩), ("is_whole", ⟨["thing"], ["thing"], i_is_whole⟩), ("is_number", ⟨["thing"], ["thing"], i_is_number⟩), ("is_index", ⟨["thing", "many"], ["thing", "many"], i_is_index⟩), ("divisor_of", ⟨["one", "other"], ["one", "other"], i_divisor_of⟩), ("check_bottom", ⟨["bottom"], ["bottom"], i_check_bottom⟩), ("check_points", ⟨["bottom", "points"], ["bottom", "points", "wrong", "index", "point"], i_check_points⟩), ("check_many", ⟨["many"], ["many"], i_check_many⟩), ("lessened", ⟨["top", "bottom"], ["top", "bottom", "by"], i_lessened⟩), ("gaps_of", ⟨["bottom", "points"], ["bottom", "points", "rank", "point"], i_gaps_of⟩), ("star", ⟨["bottom", "points"], ["bottom", "points", "gaps", "gap"], i_star⟩), ("unfair", ⟨["bottom", "points"], ["bottom", "points", "gaps"], i_unfair⟩), ("best_points", ⟨["many"], ["many", "index"], i_best_points⟩), ("_law_pick", ⟨["stream", "things"], ["stream", "things"], i__law_pick⟩), ("_law_mixed", ⟨["stream", "things"], ["stream", "things", "left", "found", "k"], i__law_mixed⟩), ("_law_same", ⟨["found", "due"], ["found", "due", "mine", "theirs"], i__law_same⟩), ("_law_loose", ⟨["stream", "thing"], ["stream", "thing", "some", "one"], i__law_loose⟩), ("_law_divisor", ⟨["one", "other"], ["one", "other"], i__law_divisor⟩), ("_law_cut", ⟨["top", "bottom"], ["top", "bottom", "by"], i__law_cut⟩), ("_law_star", ⟨["bottom", "points"], ["bottom", "points", "many", "most", "end", "below", "one", "upto"], i__law_star⟩), ("_law_unfair", ⟨["bottom", "points"], ["bottom", "points", "many", "most", "ends", "point", "begin", "end", "number", "one"], i__law_unfair⟩)]
theorem l_is_list : List.lookup ("is_list" : Str) (Pr : List (Str × Fd)) = some ⟨["thing"], ["thing"], i_is_list⟩ := rfl
theorem s_is_list : sgOf Pr "is_list" = (["thing"] : List Str) := rfl
theorem l_is_whole : List.lookup ("is_whole" : Str) (Pr : List (Str × Fd)) = some ⟨["thing"], ["thing"], i_is_whole⟩ := rfl
theorem s_is_whole : sgOf Pr "is_whole" = (["thing"] : List Str) := rfl
theorem l_is_number : List.lookup ("is_number" : Str) (Pr : List (Str × Fd)) = some ⟨["thing"], ["thing"], i_is_number⟩ := rfl
theorem s_is_number : sgOf Pr "is_number" = (["thing"] : List Str) := rfl
theorem l_is_index : List.lookup ("is_index" : Str) (Pr : List (Str × Fd)) = some ⟨["thing", "many"], ["thing", "many"], i_is_index⟩ := rfl
theorem s_is_index : sgOf Pr "is_index" = (["thing", "many"] : List Str) := rfl
theorem l_divisor_of : List.lookup ("divisor_of" : Str) (Pr : List (Str × Fd)) = some ⟨["one", "other"], ["one", "other"], i_divisor_of⟩ := rfl
theorem s_divisor_of : sgOf Pr "divisor_of" = (["one", "other"] : List Str) := rfl
theorem l_check_bottom : List.lookup ("check_bottom" : Str) (Pr : List (Str × Fd)) = some ⟨["bottom"], ["bottom"], i_check_bottom⟩ := rfl
theorem s_check_bottom : sgOf Pr "check_bottom" = (["bottom"] : List Str) := rfl
theorem l_check_points : List.lookup ("check_points" : Str) (Pr : List (Str × Fd)) = some ⟨["bottom", "points"], ["bottom", "points", "wrong", "index", "point"], i_check_points⟩ := rfl
theorem s_check_points : sgOf Pr "check_points" = (["bottom", "points"] : List Str) := rfl
theorem l_check_many : List.lookup ("check_many" : Str) (Pr : List (Str × Fd)) = some ⟨["many"], ["many"], i_check_many⟩ := rfl
theorem s_check_many : sgOf Pr "check_many" = (["many"] : List Str) := rfl
theorem l_lessened : List.lookup ("lessened" : Str) (Pr : List (Str × Fd)) = some ⟨["top", "bottom"], ["top", "bottom", "by"], i_lessened⟩ := rfl
theorem s_lessened : sgOf Pr "lessened" = (["top", "bottom"] : List Str) := rfl
theorem l_gaps_of : List.lookup ("gaps_of" : Str) (Pr : List (Str × Fd)) = some ⟨["bottom", "points"], ["bottom", "points", "rank", "point"], i_gaps_of⟩ := rfl
theorem s_gaps_of : sgOf Pr "gaps_of" = (["bottom", "points"] : List Str) := rfl
theorem l_star : List.lookup ("star" : Str) (Pr : List (Str × Fd)) = some ⟨["bottom", "points"], ["bottom", "points", "gaps", "gap"], i_star⟩ := rfl
theorem s_star : sgOf Pr "star" = (["bottom", "points"] : List Str) := rfl
theorem l_unfair : List.lookup ("unfair" : Str) (Pr : List (Str × Fd)) = some ⟨["bottom", "points"], ["bottom", "points", "gaps"], i_unfair⟩ := rfl
theorem s_unfair : sgOf Pr "unfair" = (["bottom", "points"] : List Str) := rfl
theorem l_best_points : List.lookup ("best_points" : Str) (Pr : List (Str × Fd)) = some ⟨["many"], ["many", "index"], i_best_points⟩ := rfl
theorem s_best_points : sgOf Pr "best_points" = (["many"] : List Str) := rfl
theorem l__law_pick : List.lookup ("_law_pick" : Str) (Pr : List (Str × Fd)) = some ⟨["stream", "things"], ["stream", "things"], i__law_pick⟩ := rfl
theorem s__law_pick : sgOf Pr "_law_pick" = (["stream", "things"] : List Str) := rfl
theorem l__law_mixed : List.lookup ("_law_mixed" : Str) (Pr : List (Str × Fd)) = some ⟨["stream", "things"], ["stream", "things", "left", "found", "k"], i__law_mixed⟩ := rfl
theorem s__law_mixed : sgOf Pr "_law_mixed" = (["stream", "things"] : List Str) := rfl
theorem l__law_same : List.lookup ("_law_same" : Str) (Pr : List (Str × Fd)) = some ⟨["found", "due"], ["found", "due", "mine", "theirs"], i__law_same⟩ := rfl
theorem s__law_same : sgOf Pr "_law_same" = (["found", "due"] : List Str) := rfl
theorem l__law_loose : List.lookup ("_law_loose" : Str) (Pr : List (Str × Fd)) = some ⟨["stream", "thing"], ["stream", "thing", "some", "one"], i__law_loose⟩ := rfl
theorem s__law_loose : sgOf Pr "_law_loose" = (["stream", "thing"] : List Str) := rfl
theorem l__law_divisor : List.lookup ("_law_divisor" : Str) (Pr : List (Str × Fd)) = some ⟨["one", "other"], ["one", "other"], i__law_divisor⟩ := rfl
theorem s__law_divisor : sgOf Pr "_law_divisor" = (["one", "other"] : List Str) := rfl
theorem l__law_cut : List.lookup ("_law_cut" : Str) (Pr : List (Str × Fd)) = some ⟨["top", "bottom"], ["top", "bottom", "by"], i__law_cut⟩ := rfl
theorem s__law_cut : sgOf Pr "_law_cut" = (["top", "bottom"] : List Str) := rfl
theorem l__law_star : List.lookup ("_law_star" : Str) (Pr : List (Str × Fd)) = some ⟨["bottom", "points"], ["bottom", "points", "many", "most", "end", "below", "one", "upto"], i__law_star⟩ := rfl
theorem s__law_star : sgOf Pr "_law_star" = (["bottom", "points"] : List Str) := rfl
theorem l__law_unfair : List.lookup ("_law_unfair" : Str) (Pr : List (Str × Fd)) = some ⟨["bottom", "points"], ["bottom", "points", "many", "most", "ends", "point", "begin", "end", "number", "one"], i__law_unfair⟩ := rfl
theorem s__law_unfair : sgOf Pr "_law_unfair" = (["bottom", "points"] : List Str) := rfl
theorem l__law_draw : List.lookup ("_law_draw" : Str) (Pr : List (Str × Fd)) = none := rfl
theorem s__law_draw : sgOf Pr "_law_draw" = (["stream", "many"] : List Str) := rfl
end Lk74

namespace Lk74
open PySem Sd
def TT : Tb := [("is_list", ⟨1000000, 0⟩, ⟨1000000, 0⟩, false), ("is_whole", ⟨1000000, 0⟩, ⟨1000000, 0⟩, false), ("is_number", ⟨1000000, 0⟩, ⟨1, 1⟩, false), ("is_index", ⟨1000000, 0⟩, ⟨1, 1⟩, false), ("divisor_of", ⟨1000000, 0⟩, ⟨1000000, 0⟩, true), ("check_bottom", ⟨1000000, 0⟩, ⟨1, 1⟩, false), ("check_points", ⟨1000000, 0⟩, ⟨1, 1⟩, false), ("check_many", ⟨1000000, 0⟩, ⟨1, 1⟩, false), ("lessened", ⟨1, 1⟩, ⟨1, 1⟩, false), ("gaps_of", ⟨1, 1⟩, ⟨1000000, 0⟩, false), ("star", ⟨1, 1⟩, ⟨1, 1⟩, false), ("unfair", ⟨1, 1⟩, ⟨1, 1⟩, false), ("best_points", ⟨1, 1⟩, ⟨1, 1⟩, false), ("_law_pick", ⟨0, 0⟩, ⟨1, 1⟩, false), ("_law_mixed", ⟨0, 1⟩, ⟨1, 1⟩, false), ("_law_same", ⟨1, 1⟩, ⟨1, 1⟩, false), ("_law_loose", ⟨0, 1⟩, ⟨1, 1⟩, false), ("_law_divisor", ⟨1000000, 0⟩, ⟨1000000, 0⟩, true), ("_law_cut", ⟨1, 1⟩, ⟨1, 1⟩, false), ("_law_star", ⟨1, 1⟩, ⟨1, 1⟩, false), ("_law_unfair", ⟨1, 1⟩, ⟨1, 1⟩, false)]
theorem look : look2 Pr TT lawI 11 = true := by decide +kernel
end Lk74

namespace Lk74
open PySem Sd
local macro_rules | `(tactic| simp_arith [$ls,*]) => `(tactic| simp -implicitDefEqProofs only [qL_nil, qL_cons, qE_non, qE_bl, qE_int, qE_str, qE_var, qE_op2, qE_cmp, qE_chn, qE_not, qE_ite, qE_lst, qE_tup, qE_ix, qE_blt, qE_lc, qE_lrng, qCs_nil, qCs_cons, qA_nil, qA_cons, qSt_nil, qSt_cons, qP_nil, qIt_rng, qIt_e, qN_nil, qN_cons, qS_expr, qS_asg, qS_asgT, qS_par, qS_parO, qS_setIx, qS_ret, qS_retN, qS_ite, qS_for, qS_raise, qS_pass, qS_wipe, qS_scope, rS_spoil, rE_and, rE_or, rE_isN, rE_notN, rE_isa, rE_slc, rE_neg, rP_cons, rSt_star, rIt_zip, rIt_enm, rE_call, rE_callK, rE_mth, pbind_ok, pbind_exc, pbind_stuck, pw_ok, pw_exc, pw_stuck, pthen_nx, pthen_rt, pthen_exc, pthen_stuck, pOpt_some, pOk_some, endP_nx, endP_rt, endP_exc, endP_stuck, pbind_ite, pw_ite, pthen_ite, endP_ite, ite_and, ite_or, pand_bl, por_bl, pT, tru_bl, tru_int, tru_non, isNon_non, isNon_bl, isNon_int, isNon_str, isNon_l, isNon_t, isaD_non, isaD_bl, isaD_int, isaD_str, isaD_l, isaD_t, isTy, List.any_cons, List.any_nil, retP_ok, retP_exc, retP_ite, mthP_append, mthP_extend, seqOf_sq, tru_sq, isNon_sq, isaLT_sq, isaL_sq, isaT_sq, len_sq, list_sq, tuple_sq, ix_sq, slc_sq, setPg_sq, seqOf_l, seqOf_t, startP_eq, setPs, setPg_one, setPg_t, setPg_l, wipeP, backP, bin, cmp_lt_i, cmp_le_i, cmp_gt_i, cmp_ge_i, cmp_eq_i, cmp_ne_i, cmp_eq_b, cmp_ne_b, abs_i, len_l, len_t, list_l, list_t, tuple_l, tuple_t, max_2, min_2, int_i, int_b, negD, intD, ix_l, ix_t, slc_l, slc_t, at_0, at_1, at_2, at_m1, List.getElem?_cons_succ, List.getElem?_cons_zero, List.set_cons_succ, List.set_cons_zero, List.length_cons, List.length_nil, List.length_map, List.length_append, List.map_cons, List.map_nil, List.cons_append, List.nil_append, List.append_nil, List.replicate_succ, List.replicate_zero, Option.bind_some, Option.getD_some, Option.getD_none, Nat.reduceAdd, Nat.reduceSub, Nat.reduceLeDiff, Nat.reduceEqDiff, Nat.sub_self, sz0, sz1, sz2, sz3, sz4, sz5, sz6, sz7, sz8, szN, if_true, if_false, ite_true, ite_false, reduceIte, Bool.false_eq_true, Bool.true_eq_false, Bool.not_true, Bool.not_false, Bool.true_and, Bool.false_and, Bool.and_true, Bool.and_false, Bool.true_or, Bool.false_or, Bool.or_true, Bool.or_false, decide_true, decide_false, reduceCtorEq, ne_eq, not_false_eq_true, implies_true, $ls,*])
local macro_rules | `(tactic| simp_arith [$ls,*] at $h:ident) => `(tactic| simp -implicitDefEqProofs only [qL_nil, qL_cons, qE_non, qE_bl, qE_int, qE_str, qE_var, qE_op2, qE_cmp, qE_chn, qE_not, qE_ite, qE_lst, qE_tup, qE_ix, qE_blt, qE_lc, qE_lrng, qCs_nil, qCs_cons, qA_nil, qA_cons, qSt_nil, qSt_cons, qP_nil, qIt_rng, qIt_e, qN_nil, qN_cons, qS_expr, qS_asg, qS_asgT, qS_par, qS_parO, qS_setIx, qS_ret, qS_retN, qS_ite, qS_for, qS_raise, qS_pass, qS_wipe, qS_scope, rS_spoil, rE_and, rE_or, rE_isN, rE_notN, rE_isa, rE_slc, rE_neg, rP_cons, rSt_star, rIt_zip, rIt_enm, rE_call, rE_callK, rE_mth, pbind_ok, pbind_exc, pbind_stuck, pw_ok, pw_exc, pw_stuck, pthen_nx, pthen_rt, pthen_exc, pthen_stuck, pOpt_some, pOk_some, endP_nx, endP_rt, endP_exc, endP_stuck, pbind_ite, pw_ite, pthen_ite, endP_ite, ite_and, ite_or, pand_bl, por_bl, pT, tru_bl, tru_int, tru_non, isNon_non, isNon_bl, isNon_int, isNon_str, isNon_l, isNon_t, isaD_non, isaD_bl, isaD_int, isaD_str, isaD_l, isaD_t, isTy, List.any_cons, List.any_nil, retP_ok, retP_exc, retP_ite, mthP_append, mthP_extend, seqOf_sq, tru_sq, isNon_sq, isaLT_sq, isaL_sq, isaT_sq, len_sq, list_sq, tuple_sq, ix_sq, slc_sq, setPg_sq, seqOf_l, seqOf_t, startP_eq, setPs, setPg_one, setPg_t, setPg_l, wipeP, backP, bin, cmp_lt_i, cmp_le_i, cmp_gt_i, cmp_ge_i, cmp_eq_i, cmp_ne_i, cmp_eq_b, cmp_ne_b, abs_i, len_l, len_t, list_l, list_t, tuple_l, tuple_t, max_2, min_2, int_i, int_b, negD, intD, ix_l, ix_t, slc_l, slc_t, at_0, at_1, at_2, at_m1, List.getElem?_cons_succ, List.getElem?_cons_zero, List.set_cons_succ, List.set_cons_zero, List.length_cons, List.length_nil, List.length_map, List.length_append, List.map_cons, List.map_nil, List.cons_append, List.nil_append, List.append_nil, List.replicate_succ, List.replicate_zero, Option.bind_some, Option.getD_some, Option.getD_none, Nat.reduceAdd, Nat.reduceSub, Nat.reduceLeDiff, Nat.reduceEqDiff, Nat.sub_self, sz0, sz1, sz2, sz3, sz4, sz5, sz6, sz7, sz8, szN, if_true, if_false, ite_true, ite_false, reduceIte, Bool.false_eq_true, Bool.true_eq_false, Bool.not_true, Bool.not_false, Bool.true_and, Bool.false_and, Bool.and_true, Bool.and_false, Bool.true_or, Bool.false_or, Bool.or_true, Bool.or_false, decide_true, decide_false, reduceCtorEq, ne_eq, not_false_eq_true, implies_true, $ls,*] at $h:ident)
theorem hD : NoDraw Pr := rfl
theorem hPick : Has Pr "_law_pick" fPick := rfl
theorem hSame : Has Pr "_law_same" fSame := rfl
theorem hLoose : Has Pr "_law_loose" fLoose := rfl
theorem hMixed : Has Pr "_law_mixed" fMixed := rfl
/-! ### numbers -/
theorem mulB {i j : Int} (h1 : i.natAbs ≤ 1000000000000) (h2 : j.natAbs ≤ 1000000000000) : mulOk i j = true := by
  have : (2 : Nat) ^ 60 ≤ BIG := by unfold BIG; exact Nat.pow_le_pow_right (by decide) (by decide)
  simp only [mulOk, Bool.and_eq_true, decide_eq_true_eq]; omega
theorem divB {j : Int} (h0 : 0 < j) (h1 : j.natAbs ≤ 1000000000000) : divOk j = true := by
  have : (2 : Nat) ^ 60 ≤ 2 ^ 9000 := Nat.pow_le_pow_right (by decide) (by decide)
  simp only [divOk, Bool.and_eq_true, decide_eq_true_eq]; omega
theorem c_is_whole {n : Nat} {i : Int} {s : List Stm} : callP Pr (n + 1) "is_whole" [.int i] s = .ok (.bl true) s := by
  rw [callP_eq l_is_whole rfl]
  simp_arith [i_is_whole]
theorem c_is_number {n : Nat} {i : Int} {s : List Stm} : callP Pr (n + 2) "is_number" [.int i] s = .ok (.bl (decide (0 ≤ i))) s := by
  rw [callP_eq l_is_number rfl]
  simp_arith [i_is_number, s_is_whole, c_is_whole]
theorem c_is_index {n : Nat} {i m : Int} {s : List Stm} : callP Pr (n + 3) "is_index" [.int i, .int m] s = .ok (.bl (decide (0 ≤ i) && decide (i < m))) s := by
  rw [callP_eq l_is_index rfl]
  simp_arith [i_is_index, s_is_number, c_is_number]
theorem c_is_list {n : Nat} {b : Bool} {xs : List D} {s : List Stm} : callP Pr (n + 1) "is_list" [sq b xs] s = .ok (.bl true) s := by
  rw [callP_eq l_is_list rfl]
  simp_arith [i_is_list]
theorem c_check_bottom {n : Nat} {B : Int} (h : 1 ≤ B) {s : List Stm} : callP Pr (n + 2) "check_bottom" [.int B] s = .ok .non s := by
  have h1 : decide (B < 1) = false := decide_eq_false (by omega)
  rw [callP_eq l_check_bottom rfl]
  simp_arith [i_check_bottom, s_is_whole, c_is_whole, h1]
theorem c_check_many {n : Nat} {B : Int} (h : 1 ≤ B) {s : List Stm} : callP Pr (n + 2) "check_many" [.int B] s = .ok .non s := by
  have h1 : decide (B < 1) = false := decide_eq_false (by omega)
  rw [callP_eq l_check_many rfl]
  simp_arith [i_check_many, s_is_whole, c_is_whole, h1]
/-- points below a bottom -/
structure Pts (B : Int) (ps : List Int) : Prop where
  b1 : 1 ≤ B
  b2 : B ≤ 1000
  n0 : ps ≠ []
  n1 : ps.length ≤ 20
  p : ∀ q ∈ ps, 0 ≤ q ∧ q < B
theorem enmP_mem {α : Type} : ∀ {xs : List α} {k : Int} {p : Int × α}, p ∈ enmP k xs → k ≤ p.1 ∧ p.1 < k + xs.length ∧ p.2 ∈ xs
  | x :: xs, k, p, h => by
    simp only [enmP] at h
    rcases List.mem_cons.mp h with rfl | h
    · simp only [List.length_cons]; exact ⟨by omega, by omega, List.mem_cons_self⟩
    · obtain ⟨a, b, c⟩ := enmP_mem h
      simp only [List.length_cons]; exact ⟨by omega, by omega, List.mem_cons_of_mem _ c⟩
theorem enmP_len {α : Type} : ∀ {xs : List α} {k : Int}, (enmP k xs).length = xs.length
  | [], _ => rfl
  | x :: xs, k => by simp only [enmP, List.length_cons, enmP_len]
theorem cmp_ne_nil {xs : List D} (h : eqOks 59 xs = true) : cmpD .ne (.lst xs) (.lst []) = some (!xs.isEmpty) := by
  have e1 : eqOk 60 (.lst xs) = true := by simp only [eqOk, h]
  have e2 : eqOk 60 (.lst []) = true := rfl
  have e3 : eqD (.lst xs) (.lst []) = xs.isEmpty := by cases xs <;> simp [eqD, eqDs]
  simp only [cmpD, e1, e2, Bool.and_self, if_true, e3]
theorem c_check_points {n : Nat} {B : Int} {ps : List Int} {b : Bool} (h : Pts B ps) {s : List Stm} : callP Pr (n + 4) "check_points" [.int B, sq b (ps.map .int)] s = .ok .non s := by
  have hl : ((ps.length : Int) == 0) = false := by
    have := List.length_pos_iff.mpr h.n0
    exact beq_eq_false_iff_ne.mpr (by omega)
  have r0 : rOk 0 = true := rfl
  have n1 := h.n1
  rw [callP_eq l_check_points rfl]
  simp_arith [i_check_points, s_check_bottom, c_check_bottom h.b1, s_is_list, c_is_list, hl, r0, enm_map]
  rw [plc_filter (enmP 0 ps) _ (fun _ => false) (fun p => .int p.1) (by rw [enmP_len]; unfold SZ; omega) ?h1]
  case h1 =>
    intro p hp
    obtain ⟨_, _, hp⟩ := enmP_mem hp
    obtain ⟨h1, h2⟩ := h.p _ hp
    have d1 : decide (0 ≤ p.2) = true := decide_eq_true h1
    have d2 : decide (p.2 < B) = true := decide_eq_true h2
    simp only [plT]
    simp_arith [s_is_index, c_is_index, d1, d2, CT, and_self]
  have e : (enmP 0 ps).filter (fun _ => false) = [] := by simp
  rw [e]
  simp_arith [cmp_ne_nil (xs := []) rfl, List.isEmpty_nil]
/-! ### divisors -/
theorem w_div {sg : Sig} {cl : PCaller} {s : List Stm} : ∀ (fl m k : Nat), k < fl → k < 1000000000 →
    pwh cl sg (.cmp .gt (.var 1) (.int 0)) [(.par [0, 1] [(.var 1), (.op2 .mod (.var 0) (.var 1))])] fl ⟨[some (.int m), some (.int k)], s⟩ = .nx ⟨[some (.int (Nat.gcd m k)), some (.int 0)], s⟩
  | 0, _, _, h, _ => by omega
  | fl + 1, m, 0, _, _ => by
    rw [pwh_succ]
    simp_arith [Int.lt_irrefl, Nat.gcd_zero_right, Int.cast_ofNat_Int]
  | fl + 1, m, k + 1, h, h2 => by
    have hp : decide ((0 : Int) < ((k + 1 : Nat) : Int)) = true := decide_eq_true (by omega)
    have m3 : divOk ((k + 1 : Nat) : Int) = true := divB (by omega) (by omega)
    have hm : m % (k + 1) < k + 1 := Nat.mod_lt _ (by omega)
    have ih := w_div (sg := sg) (cl := cl) (s := s) fl (k + 1) (m % (k + 1)) (by omega) (by omega)
    have e : Nat.gcd (k + 1) (m % (k + 1)) = Nat.gcd m (k + 1) := by rw [Nat.gcd_comm m, Nat.gcd_rec (k + 1) m, Nat.gcd_comm]
    have e2 : (m : Int) % ((k + 1 : Nat) : Int) = ((m % (k + 1) : Nat) : Int) := by norm_cast
    rw [e] at ih
    rw [pwh_succ]
    simp_arith [hp, m3, e2]
    exact ih
theorem w_divL {sg : Sig} {cl : PCaller} {s : List Stm} : ∀ (fl m k : Nat), k < fl → k < 1000000000 →
    pwh cl sg (.cmp .gt (.var 1) (.int 0)) [(.par [0, 1] [(.var 1), (.op2 .mod (.blt .int [(.var 0)]) (.var 1))])] fl ⟨[some (.int m), some (.int k)], s⟩ = .nx ⟨[some (.int (Nat.gcd m k)), some (.int 0)], s⟩
  | 0, _, _, h, _ => by omega
  | fl + 1, m, 0, _, _ => by
    rw [pwh_succ]
    simp_arith [Int.lt_irrefl, Nat.gcd_zero_right, Int.cast_ofNat_Int]
  | fl + 1, m, k + 1, h, h2 => by
    have hp : decide ((0 : Int) < ((k + 1 : Nat) : Int)) = true := decide_eq_true (by omega)
    have m3 : divOk ((k + 1 : Nat) : Int) = true := divB (by omega) (by omega)
    have hm : m % (k + 1) < k + 1 := Nat.mod_lt _ (by omega)
    have ih := w_divL (sg := sg) (cl := cl) (s := s) fl (k + 1) (m % (k + 1)) (by omega) (by omega)
    have e : Nat.gcd (k + 1) (m % (k + 1)) = Nat.gcd m (k + 1) := by rw [Nat.gcd_comm m, Nat.gcd_rec (k + 1) m, Nat.gcd_comm]
    have e2 : (m : Int) % ((k + 1 : Nat) : Int) = ((m % (k + 1) : Nat) : Int) := by norm_cast
    rw [e] at ih
    rw [pwh_succ]
    simp_arith [hp, m3, e2]
    exact ih
theorem c_divisor {n m k : Nat} (h : k < 1000000000) {s : List Stm} : callP Pr (n + 1) "divisor_of" [.int m, .int k] s = .ok (.int (Nat.gcd m k)) s := by
  have w := w_div (sg := sgOf Pr) (cl := callP Pr n) (s := s) fuel m k (by unfold fuel; omega) h
  have a1 : ¬ (m : Int) < 0 := by omega
  have a2 : ¬ (k : Int) < 0 := by omega
  rw [callP_eq l_divisor_of rfl]
  simp_arith [i_divisor_of, a1, a2, qS_while, w]
theorem c_divisorL {n m k : Nat} (h : k < 1000000000) {s : List Stm} : callP Pr (n + 1) "_law_divisor" [.int m, .int k] s = .ok (.int (Nat.gcd m k)) s := by
  have w := w_divL (sg := sgOf Pr) (cl := callP Pr n) (s := s) fuel m k (by unfold fuel; omega) h
  have a1 : ¬ (m : Int) < 0 := by omega
  have a2 : ¬ (k : Int) < 0 := by omega
  rw [callP_eq l__law_divisor rfl]
  simp_arith [i__law_divisor, a1, a2, qS_while, w]
/-- a fraction, cut -/
def cutD2 (a N : Nat) : D := .tup [.int ((a : Int) / (Nat.gcd a N : Nat)), .int ((N : Int) / (Nat.gcd a N : Nat))]
theorem gcd_ok {m k : Nat} (h0 : 0 < k) (h : k < 1000000000) : divOk (Nat.gcd m k : Int) = true := by
  have h1 : 0 < Nat.gcd m k := Nat.gcd_pos_of_pos_right m h0
  have h2 : Nat.gcd m k ≤ k := Nat.gcd_le_right m h0
  exact divB (by omega) (by omega)
theorem c_lessened {n a N : Nat} (h0 : 0 < N) (h : N < 1000000000) {s : List Stm} : callP Pr (n + 2) "lessened" [.int a, .int N] s = .ok (cutD2 a N) s := by
  rw [callP_eq l_lessened rfl]
  simp_arith [i_lessened, c_divisor h, s_divisor_of, gcd_ok h0 h, cutD2]
theorem c_cut {n a N : Nat} (h0 : 0 < N) (h : N < 1000000000) {s : List Stm} : callP Pr (n + 2) "_law_cut" [.int a, .int N] s = .ok (cutD2 a N) s := by
  rw [callP_eq l__law_cut rfl]
  simp_arith [i__law_cut, c_divisorL h, s__law_divisor, gcd_ok h0 h, cutD2]
/-! ### gaps -/
def gapsF (B : Int) (ps : List Int) : List Int := (enmP 1 (sortI ps)).map fun p => p.1 * B - p.2 * ps.length
theorem insI_memP {x z : Int} : ∀ {xs : List Int}, z ∈ insI x xs ↔ z = x ∨ z ∈ xs
  | [] => by simp [insI]
  | y :: r => by
    simp only [insI]; split
    · simp
    · simp only [List.mem_cons, insI_memP (xs := r)]
      constructor
      · rintro (h | h | h) <;> simp [h]
      · rintro (h | h | h) <;> simp [h]
theorem sortI_memP {z : Int} : ∀ {xs : List Int}, z ∈ sortI xs ↔ z ∈ xs
  | [] => by simp [sortI]
  | x :: r => by simp only [sortI, insI_memP, sortI_memP (xs := r), List.mem_cons]
theorem insI_lenP (x : Int) : ∀ xs : List Int, (insI x xs).length = xs.length + 1
  | [] => rfl
  | y :: r => by
    simp only [insI]; split
    · simp
    · simp [insI_lenP x r]
theorem sortI_lenP : ∀ xs : List Int, (sortI xs).length = xs.length
  | [] => rfl
  | x :: r => by simp only [sortI, insI_lenP, sortI_lenP r, List.length_cons]
theorem natAbs_le {i : Int} {n : Nat} (h1 : -(n : Int) ≤ i) (h2 : i ≤ n) : i.natAbs ≤ n := by omega
theorem c_gaps {n : Nat} {B : Int} {ps : List Int} {b : Bool} (h : Pts B ps) {s : List Stm} : callP Pr (n + 1) "gaps_of" [.int B, sq b (ps.map .int)] s = .ok (.lst ((gapsF B ps).map .int)) s := by
  have r1 : rOk 1 = true := rfl
  have n1 := h.n1
  have b1 := h.b1
  have b2 := h.b2
  rw [callP_eq l_gaps_of rfl]
  simp_arith [i_gaps_of, sorted_ints, r1, enm_map]
  rw [plc_map (enmP 1 (sortI ps)) _ (fun p => .int (p.1 * B - p.2 * ps.length)) (by rw [enmP_len, sortI_lenP]; unfold SZ; omega) ?h1]
  case h1 =>
    intro p hp
    obtain ⟨q1, q2, hp⟩ := enmP_mem hp
    rw [sortI_lenP] at q2
    obtain ⟨h1, h2⟩ := h.p _ (sortI_memP.mp hp)
    have m1 : mulOk p.1 B = true := mulB (by omega) (by omega)
    have m2 : mulOk p.2 (ps.length : Int) = true := mulB (by omega) (by omega)
    simp only [plT]
    simp_arith [m1, m2, CT, and_self]
  simp_arith [gapsF, List.map_map, Function.comp_def]
end Lk74

/-! the stretches: plain law -/
namespace Lk74
open PySem Sd
/-! ### greatest and least -/
theorem fmax_ge : ∀ (xs : List Int) (x : Int), x ≤ xs.foldl (fun m y => if y > m then y else m) x ∧ ∀ y ∈ xs, y ≤ xs.foldl (fun m y => if y > m then y else m) x
  | [], x => ⟨Int.le_refl _, fun y h => (by cases h)⟩
  | z :: xs, x => by
    simp only [List.foldl_cons]
    obtain ⟨a, b⟩ := fmax_ge xs (if z > x then z else x)
    have c1 : x ≤ (if z > x then z else x) := by split <;> omega
    have c2 : z ≤ (if z > x then z else x) := by split <;> omega
    refine ⟨Int.le_trans c1 a, fun y hy => ?_⟩
    rcases List.mem_cons.mp hy with rfl | hy
    · exact Int.le_trans c2 a
    · exact b y hy
theorem fmax_mem : ∀ (xs : List Int) (x : Int), xs.foldl (fun m y => if y > m then y else m) x ∈ x :: xs
  | [], x => List.mem_cons_self
  | z :: xs, x => by
    simp only [List.foldl_cons]
    have h := fmax_mem xs (if z > x then z else x)
    rcases List.mem_cons.mp h with h | h
    · rw [h]; split <;> simp
    · exact List.mem_cons_of_mem _ (List.mem_cons_of_mem _ h)
theorem maxI_upP {xs : List Int} {y : Int} (h : y ∈ xs) : y ≤ maxI xs := by
  cases xs with
  | nil => cases h
  | cons x xs =>
    obtain ⟨a, b⟩ := fmax_ge xs x
    rcases List.mem_cons.mp h with rfl | h
    · exact a
    · exact b y h
theorem maxI_memP {xs : List Int} (h : xs ≠ []) : maxI xs ∈ xs := by
  cases xs with
  | nil => exact absurd rfl h
  | cons x xs => exact fmax_mem xs x
theorem fmin_le : ∀ (xs : List Int) (x : Int), xs.foldl (fun m y => if y < m then y else m) x ≤ x ∧ ∀ y ∈ xs, xs.foldl (fun m y => if y < m then y else m) x ≤ y
  | [], x => ⟨Int.le_refl _, fun y h => (by cases h)⟩
  | z :: xs, x => by
    simp only [List.foldl_cons]
    obtain ⟨a, b⟩ := fmin_le xs (if z < x then z else x)
    have c1 : (if z < x then z else x) ≤ x := by split <;> omega
    have c2 : (if z < x then z else x) ≤ z := by split <;> omega
    refine ⟨Int.le_trans a c1, fun y hy => ?_⟩
    rcases List.mem_cons.mp hy with rfl | hy
    · exact Int.le_trans a c2
    · exact b y hy
theorem fmin_mem : ∀ (xs : List Int) (x : Int), xs.foldl (fun m y => if y < m then y else m) x ∈ x :: xs
  | [], x => List.mem_cons_self
  | z :: xs, x => by
    simp only [List.foldl_cons]
    have h := fmin_mem xs (if z < x then z else x)
    rcases List.mem_cons.mp h with h | h
    · rw [h]; split <;> simp
    · exact List.mem_cons_of_mem _ (List.mem_cons_of_mem _ h)
theorem minI_loP {xs : List Int} {y : Int} (h : y ∈ xs) : minI xs ≤ y := by
  cases xs with
  | nil => cases h
  | cons x xs =>
    obtain ⟨a, b⟩ := fmin_le xs x
    rcases List.mem_cons.mp h with rfl | h
    · exact a
    · exact b y h
theorem minI_memP {xs : List Int} (h : xs ≠ []) : minI xs ∈ xs := by
  cases xs with
  | nil => exact absurd rfl h
  | cons x xs => exact fmin_mem xs x
/-- the greatest number, by what it is -/
theorem maxI_eq {xs : List Int} {m : Int} (h : m ∈ xs) (k : ∀ y ∈ xs, y ≤ m) : maxI xs = m := by
  have h1 := maxI_upP h
  have h2 := k _ (maxI_memP (List.ne_nil_of_mem h))
  omega
/-! ### how many are below, and up to -/
def lo (s : List Int) (e : Int) : Int := (s.filter fun q => decide (q < e)).length
def up (s : List Int) (e : Int) : Int := (s.filter fun q => decide (q ≤ e)).length
theorem lo_perm {s t : List Int} (h : s.Perm t) (e : Int) : lo s e = lo t e := by unfold lo; rw [(h.filter _).length_eq]
theorem up_perm {s t : List Int} (h : s.Perm t) (e : Int) : up s e = up t e := by unfold up; rw [(h.filter _).length_eq]
theorem lo_cons {x : Int} {s : List Int} {e : Int} : lo (x :: s) e = (if x < e then 1 else 0) + lo s e := by
  unfold lo
  by_cases h : x < e
  · simp [h]; omega
  · simp [h]
theorem up_cons {x : Int} {s : List Int} {e : Int} : up (x :: s) e = (if x ≤ e then 1 else 0) + up s e := by
  unfold up
  by_cases h : x ≤ e
  · simp [h]; omega
  · simp [h]
theorem lo_nil {e : Int} : lo [] e = 0 := rfl
theorem up_nil {e : Int} : up [] e = 0 := rfl
theorem lo_zero {s : List Int} {e : Int} (h : ∀ q ∈ s, e ≤ q) : lo s e = 0 := by
  induction s with
  | nil => rfl
  | cons x s ih =>
    rw [lo_cons, if_neg (by have := h x List.mem_cons_self; omega), ih fun q hq => h q (List.mem_cons_of_mem _ hq)]; rfl
theorem up_zero {s : List Int} {e : Int} (h : ∀ q ∈ s, e < q) : up s e = 0 := by
  induction s with
  | nil => rfl
  | cons x s ih =>
    rw [up_cons, if_neg (by have := h x List.mem_cons_self; omega), ih fun q hq => h q (List.mem_cons_of_mem _ hq)]; rfl
theorem lo_all {s : List Int} {e : Int} (h : ∀ q ∈ s, q < e) : lo s e = s.length := by
  induction s with
  | nil => rfl
  | cons x s ih =>
    rw [lo_cons, if_pos (h x List.mem_cons_self), ih fun q hq => h q (List.mem_cons_of_mem _ hq)]; simp; omega
theorem up_all {s : List Int} {e : Int} (h : ∀ q ∈ s, q ≤ e) : up s e = s.length := by
  induction s with
  | nil => rfl
  | cons x s ih =>
    rw [up_cons, if_pos (h x List.mem_cons_self), ih fun q hq => h q (List.mem_cons_of_mem _ hq)]; simp; omega
theorem lo_nn {s : List Int} {e : Int} : 0 ≤ lo s e ∧ lo s e ≤ s.length := by
  unfold lo
  have := List.length_filter_le (fun q => decide (q < e)) s
  omega
theorem up_nn {s : List Int} {e : Int} : 0 ≤ up s e ∧ up s e ≤ s.length := by
  unfold up
  have := List.length_filter_le (fun q => decide (q ≤ e)) s
  omega
theorem lo_up {s : List Int} {e : Int} : lo s e ≤ up s e := by
  induction s with
  | nil => exact Int.le_refl _
  | cons x s ih => rw [lo_cons, up_cons]; split <;> split <;> omega
/-! sorted -/
inductive Asc : List Int → Prop
  | nil : Asc []
  | cons {x : Int} {s : List Int} : (∀ q ∈ s, x ≤ q) → Asc s → Asc (x :: s)
theorem insI_asc {x : Int} : ∀ {s : List Int}, Asc s → Asc (insI x s)
  | [], _ => .cons (fun q h => (by cases h)) .nil
  | y :: s, .cons h k => by
    simp only [insI]
    split
    · rename_i hxy
      refine .cons (fun q hq => ?_) (.cons h k)
      rcases List.mem_cons.mp hq with rfl | hq
      · exact hxy
      · have := h q hq; omega
    · rename_i hxy
      refine .cons (fun q hq => ?_) (insI_asc k)
      rcases insI_memP.mp hq with rfl | hq
      · omega
      · exact h q hq
theorem sortI_asc : ∀ s : List Int, Asc (sortI s)
  | [] => .nil
  | x :: s => insI_asc (sortI_asc s)
theorem insI_perm {x : Int} : ∀ s : List Int, (insI x s).Perm (x :: s)
  | [] => .refl _
  | y :: s => by
    simp only [insI]
    split
    · exact .refl _
    · exact ((insI_perm s).cons y).trans (.swap x y s)
theorem sortI_perm : ∀ s : List Int, (sortI s).Perm s
  | [] => .refl _
  | x :: s => (insI_perm _).trans ((sortI_perm s).cons x)
/-- where things of a sorted list stand -/
theorem asc_at : ∀ {s : List Int}, Asc s → ∀ {k : Nat} {e : Int}, s[k]? = some e → lo s e ≤ k ∧ (k : Int) + 1 ≤ up s e
  | [], _, _, _, h => by simp at h
  | x :: s, .cons hx hs, 0, e, h => by
    simp at h; subst h
    rw [lo_cons, up_cons, lo_zero hx]
    have := (up_nn (s := s) (e := x)).1
    simp; omega
  | x :: s, .cons hx hs, k + 1, e, h => by
    simp at h
    obtain ⟨h1, h2⟩ := asc_at hs h
    have := hx e (List.mem_of_getElem? h)
    rw [lo_cons, up_cons, if_pos this]
    constructor
    · split <;> omega
    · omega
theorem asc_lo : ∀ {s : List Int}, Asc s → ∀ {e : Int}, e ∈ s → ∃ k : Nat, s[k]? = some e ∧ lo s e = k
  | [], _, _, h => by simp at h
  | x :: s, .cons hx hs, e, h => by
    by_cases hxe : x = e
    · subst hxe
      exact ⟨0, rfl, by rw [lo_cons, lo_zero hx]; simp⟩
    · have he : e ∈ s := by
        rcases List.mem_cons.mp h with h | h
        · exact absurd h.symm hxe
        · exact h
      obtain ⟨k, h1, h2⟩ := asc_lo hs he
      refine ⟨k + 1, by simpa using h1, ?_⟩
      have := hx e he
      rw [lo_cons, if_pos (by omega), h2]; omega
theorem asc_up : ∀ {s : List Int}, Asc s → ∀ {e : Int}, e ∈ s → ∃ k : Nat, s[k]? = some e ∧ up s e = k + 1
  | [], _, _, h => by simp at h
  | x :: s, .cons hx hs, e, h => by
    by_cases he : e ∈ s
    · obtain ⟨k, h1, h2⟩ := asc_up hs he
      refine ⟨k + 1, by simpa using h1, ?_⟩
      have := hx e he
      rw [up_cons, if_pos this, h2]; omega
    · have hxe : x = e := by
        rcases List.mem_cons.mp h with h | h
        · exact h.symm
        · exact absurd h he
      subst hxe
      refine ⟨0, rfl, ?_⟩
      rw [up_cons, if_pos (Int.le_refl _), up_zero fun q hq => ?_]
      · rfl
      · have := hx q hq
        have : q ≠ x := fun z => he (z ▸ hq)
        omega
/-- a gap: up to there, times B, less the point, times how many -/
theorem gap_at {B : Int} {ps : List Int} {g : Int} : g ∈ gapsF B ps ↔ ∃ (k : Nat) (e : Int), (sortI ps)[k]? = some e ∧ g = ((k : Int) + 1) * B - e * ps.length := by
  unfold gapsF
  rw [enmP_eq, List.map_map, List.mem_map]
  constructor
  · rintro ⟨⟨e, k⟩, h, rfl⟩
    refine ⟨k, e, ?_, ?_⟩
    · have := List.mem_zipIdx h
      simp at this
      rw [List.getElem?_eq_getElem (by omega)]
      simp [this.2]
    · simp only [Function.comp_apply]; rw [Int.add_comm 1]
  · rintro ⟨k, e, h, rfl⟩
    refine ⟨(e, k), ?_, ?_⟩
    · exact List.mem_zipIdx_iff_getElem?.mpr h
    · simp only [Function.comp_apply]; rw [Int.add_comm 1]
theorem gaps_ne {B : Int} {ps : List Int} (h : ps ≠ []) : gapsF B ps ≠ [] := by
  intro e
  have := congrArg List.length e
  unfold gapsF at this
  rw [List.length_map, enmP_len, sortI_lenP] at this
  exact h (List.length_eq_zero_iff.mp this)
/-- the greatest and the least of what a stretch from 0 is off -/
def hi (B : Int) (ps : List Int) : Int := maxI (gapsF B ps)
def lw (B : Int) (ps : List Int) : Int := minI (gapsF B ps) - B
section
variable {B : Int} {ps : List Int} (h : Pts B ps)
include h
theorem hi_is : (∃ e ∈ ps, hi B ps = up ps e * B - e * ps.length) ∧ ∀ e ∈ ps, up ps e * B - e * ps.length ≤ hi B ps := by
  constructor
  · obtain ⟨k, e, h1, h2⟩ := gap_at.mp (maxI_memP (gaps_ne (B := B) h.n0))
    have he : e ∈ ps := sortI_memP.mp (List.mem_of_getElem? h1)
    refine ⟨e, he, ?_⟩
    obtain ⟨j, h3, h4⟩ := asc_up (sortI_asc ps) (List.mem_of_getElem? h1)
    have h5 := (asc_at (sortI_asc ps) h1).2
    have h6 : up ps e * B - e * ps.length ≤ hi B ps := by
      rw [← up_perm (sortI_perm ps), h4]
      exact maxI_upP (gap_at.mpr ⟨j, e, h3, rfl⟩)
    have h7 : ((k : Int) + 1) * B ≤ up ps e * B := by
      rw [up_perm (sortI_perm ps)] at h5
      exact Int.mul_le_mul_of_nonneg_right h5 (by have := h.b1; omega)
    have h8 : hi B ps = ((k : Int) + 1) * B - e * ps.length := h2
    omega
  · intro e he
    obtain ⟨j, h3, h4⟩ := asc_up (sortI_asc ps) (sortI_memP.mpr he)
    rw [← up_perm (sortI_perm ps), h4]
    exact maxI_upP (gap_at.mpr ⟨j, e, h3, rfl⟩)
theorem lw_is : (∃ e ∈ ps, lw B ps = lo ps e * B - e * ps.length) ∧ ∀ e ∈ ps, lw B ps ≤ lo ps e * B - e * ps.length := by
  constructor
  · obtain ⟨k, e, h1, h2⟩ := gap_at.mp (minI_memP (gaps_ne (B := B) h.n0))
    have he : e ∈ ps := sortI_memP.mp (List.mem_of_getElem? h1)
    refine ⟨e, he, ?_⟩
    obtain ⟨j, h3, h4⟩ := asc_lo (sortI_asc ps) (List.mem_of_getElem? h1)
    have h5 := (asc_at (sortI_asc ps) h1).1
    have h6 : minI (gapsF B ps) ≤ (lo ps e + 1) * B - e * ps.length := by
      rw [← lo_perm (sortI_perm ps), h4]
      exact minI_loP (gap_at.mpr ⟨j, e, h3, rfl⟩)
    have h7 : lo ps e * B ≤ (k : Int) * B := by
      rw [lo_perm (sortI_perm ps)] at h5
      exact Int.mul_le_mul_of_nonneg_right h5 (by have := h.b1; omega)
    unfold lw
    rw [Int.add_mul] at h2 h6
    omega
  · intro e he
    obtain ⟨j, h3, h4⟩ := asc_lo (sortI_asc ps) (sortI_memP.mpr he)
    have h6 : minI (gapsF B ps) ≤ (lo ps e + 1) * B - e * ps.length := by
      rw [← lo_perm (sortI_perm ps), h4]
      exact minI_loP (gap_at.mpr ⟨j, e, h3, rfl⟩)
    unfold lw
    rw [Int.add_mul] at h6
    omega
theorem lo_hi {e : Int} (he : e ∈ ps) : lw B ps ≤ lo ps e * B - e * ps.length ∧ lo ps e * B - e * ps.length ≤ up ps e * B - e * ps.length ∧ up ps e * B - e * ps.length ≤ hi B ps := by
  refine ⟨(lw_is h).2 e he, ?_, (hi_is h).2 e he⟩
  have : lo ps e * B ≤ up ps e * B := Int.mul_le_mul_of_nonneg_right lo_up (by have := h.b1; omega)
  omega
/-- the signs -/
theorem lw_le : lw B ps ≤ 0 ∧ 0 ≤ hi B ps ∧ B ≤ hi B ps - lw B ps := by
  obtain ⟨x, xs, e⟩ : ∃ x xs, sortI ps = x :: xs := by
    cases e : sortI ps with
    | nil =>
      have := sortI_lenP ps
      rw [e] at this
      exact absurd (List.length_eq_zero_iff.mp this.symm) h.n0
    | cons x xs => exact ⟨x, xs, rfl⟩
  have h0 : (sortI ps)[0]? = some x := by rw [e]; rfl
  have hx : x ∈ ps := sortI_memP.mp (List.mem_of_getElem? h0)
  obtain ⟨q1, q2⟩ := h.p x hx
  have n0 := List.length_pos_iff.mpr h.n0
  have h1 : minI (gapsF B ps) ≤ ((0 : Nat) + 1 : Int) * B - x * ps.length := minI_loP (gap_at.mpr ⟨0, x, h0, rfl⟩)
  have h2 : 0 ≤ x * ps.length := Int.mul_nonneg q1 (by omega)
  -- the last one
  have hlast : ∃ y, (sortI ps)[ps.length - 1]? = some y := by
    have hl := sortI_lenP ps
    exact ⟨(sortI ps)[ps.length - 1]'(by omega), List.getElem?_eq_getElem (by omega)⟩
  obtain ⟨y, hy⟩ := hlast
  obtain ⟨r1, r2⟩ := h.p y (sortI_memP.mp (List.mem_of_getElem? hy))
  have h3 : (((ps.length - 1 : Nat) : Int) + 1) * B - y * ps.length ≤ hi B ps := maxI_upP (gap_at.mpr ⟨_, y, hy, rfl⟩)
  have e4 : ((ps.length - 1 : Nat) : Int) + 1 = ps.length := by omega
  rw [e4] at h3
  have h5 : y * ps.length ≤ B * ps.length := Int.mul_le_mul_of_nonneg_right (by omega) (by omega)
  have h6 : (ps.length : Int) * B = B * ps.length := Int.mul_comm _ _
  have h7 : minI (gapsF B ps) ≤ maxI (gapsF B ps) := maxI_upP (minI_memP (gaps_ne h.n0))
  unfold lw hi at *
  refine ⟨?_, ?_, ?_⟩ <;> omega
/-- how big they are -/
theorem hi_big : hi B ps ≤ 20000 ∧ -20000 ≤ lw B ps := by
  obtain ⟨⟨e, he, h1⟩, _⟩ := hi_is h
  obtain ⟨⟨f, hf, h2⟩, _⟩ := lw_is h
  obtain ⟨p1, p2⟩ := h.p e he
  obtain ⟨q1, q2⟩ := h.p f hf
  have n1 := h.n1
  have b1 := h.b1
  have b2 := h.b2
  have u1 := (up_nn (s := ps) (e := e))
  have l1 := (lo_nn (s := ps) (e := f))
  have a1 : up ps e * B ≤ 20 * 1000 := Int.mul_le_mul (by omega) b2 (by omega) (by omega)
  have a2 : 0 ≤ e * ps.length := Int.mul_nonneg p1 (by omega)
  have a3 : f * ps.length ≤ 1000 * 20 := Int.mul_le_mul (by omega) (by omega) (by omega) (by omega)
  have a4 : 0 ≤ lo ps f * B := Int.mul_nonneg l1.1 (by omega)
  constructor <;> omega
end
/-! ### the law's own -/
def absF (i : Int) : Int := if i < 0 then -i else i
/-- star, by the law: over all ends -/
def starStep (B : Int) (ps : List Int) (most e : Int) : Int := maxI [most, absF (lo ps e * B - e * ps.length), absF (up ps e * B - e * ps.length)]
def starF (B : Int) (ps : List Int) : Int := (sortI ps ++ [B]).foldl (starStep B ps) 0
def sgap (B : Int) (ps : List Int) : Int := if hi B ps ≤ - lw B ps then - lw B ps else hi B ps
theorem max3 {a b c : Int} : a ≤ maxI [a, b, c] ∧ b ≤ maxI [a, b, c] ∧ c ≤ maxI [a, b, c] ∧ (maxI [a, b, c] = a ∨ maxI [a, b, c] = b ∨ maxI [a, b, c] = c) := by
  refine ⟨maxI_upP (by simp), maxI_upP (by simp), maxI_upP (by simp), ?_⟩
  have := maxI_memP (xs := [a, b, c]) (by simp)
  simpa using this
theorem star_eq {B : Int} {ps : List Int} (h : Pts B ps) : starF B ps = sgap B ps := by
  obtain ⟨g1, g2, g3⟩ := lw_le h
  obtain ⟨⟨e1, he1, h1⟩, _⟩ := hi_is h
  obtain ⟨⟨e2, he2, h2⟩, _⟩ := lw_is h
  have b1 := h.b1
  -- each turn stays below the bound
  have bnd : ∀ (es : List Int), (∀ e ∈ es, e ∈ ps ∨ e = B) → ∀ m, 0 ≤ m → m ≤ sgap B ps → 0 ≤ es.foldl (starStep B ps) m ∧ es.foldl (starStep B ps) m ≤ sgap B ps ∧ m ≤ es.foldl (starStep B ps) m ∧ ∀ e ∈ es, absF (lo ps e * B - e * ps.length) ≤ es.foldl (starStep B ps) m ∧ absF (up ps e * B - e * ps.length) ≤ es.foldl (starStep B ps) m := fun es => by
    induction es with
    | nil => exact fun _ m h1 h2 => ⟨h1, h2, Int.le_refl _, fun e he => (by cases he)⟩
    | cons e es ih =>
      intro hm m k1 k2
      simp only [List.foldl_cons]
      have small : absF (lo ps e * B - e * ps.length) ≤ sgap B ps ∧ absF (up ps e * B - e * ps.length) ≤ sgap B ps := by
        rcases hm e List.mem_cons_self with he | rfl
        · obtain ⟨q1, q2, q3⟩ := lo_hi h he
          unfold absF sgap
          constructor <;> split <;> split <;> omega
        · have l1 : lo ps e = ps.length := lo_all fun q hq => (h.p q hq).2
          have u1 : up ps e = ps.length := up_all fun q hq => by have := (h.p q hq).2; omega
          rw [l1, u1, Int.mul_comm, Int.sub_self]
          unfold absF sgap
          constructor <;> split <;> omega
      obtain ⟨m1, m2, m3, m4⟩ := max3 (a := m) (b := absF (lo ps e * B - e * ps.length)) (c := absF (up ps e * B - e * ps.length))
      have st : starStep B ps m e = maxI [m, absF (lo ps e * B - e * ps.length), absF (up ps e * B - e * ps.length)] := rfl
      rw [← st] at m1 m2 m3 m4
      obtain ⟨i1, i2, i3, i4⟩ := ih (fun x hx => hm x (List.mem_cons_of_mem _ hx)) (starStep B ps m e) (by omega) (by rcases m4 with z | z | z <;> omega)
      refine ⟨i1, i2, by omega, fun x hx => ?_⟩
      rcases List.mem_cons.mp hx with rfl | hx
      · exact ⟨by omega, by omega⟩
      · exact i4 x hx
  have hall : ∀ e ∈ sortI ps ++ [B], e ∈ ps ∨ e = B := fun e he => by
    rcases List.mem_append.mp he with he | he
    · exact .inl (sortI_memP.mp he)
    · exact .inr (by simpa using he)
  obtain ⟨j1, j2, j3, j4⟩ := bnd _ hall 0 (Int.le_refl _) (by unfold sgap; split <;> omega)
  have k1 := (j4 e1 (List.mem_append_left _ (sortI_memP.mpr he1))).2
  have k2 := (j4 e2 (List.mem_append_left _ (sortI_memP.mpr he2))).1
  rw [← h1] at k1
  rw [← h2] at k2
  have : starF B ps = (sortI ps ++ [B]).foldl (starStep B ps) 0 := rfl
  rw [← this] at j2 k1 k2
  unfold absF at k1 k2
  unfold sgap at *
  split at k1 <;> split at k2 <;> split at j2 <;> split <;> omega
end Lk74

namespace Lk74
open PySem Sd
local macro_rules | `(tactic| simp_arith [$ls,*]) => `(tactic| simp -implicitDefEqProofs only [qL_nil, qL_cons, qE_non, qE_bl, qE_int, qE_str, qE_var, qE_op2, qE_cmp, qE_chn, qE_not, qE_ite, qE_lst, qE_tup, qE_ix, qE_blt, qE_lc, qE_lrng, qCs_nil, qCs_cons, qA_nil, qA_cons, qSt_nil, qSt_cons, qP_nil, qIt_rng, qIt_e, qN_nil, qN_cons, qS_expr, qS_asg, qS_asgT, qS_par, qS_parO, qS_setIx, qS_ret, qS_retN, qS_ite, qS_for, qS_raise, qS_pass, qS_wipe, qS_scope, rS_spoil, rE_and, rE_or, rE_isN, rE_notN, rE_isa, rE_slc, rE_neg, rP_cons, rSt_star, rIt_zip, rIt_enm, rE_call, rE_callK, rE_mth, pbind_ok, pbind_exc, pbind_stuck, pw_ok, pw_exc, pw_stuck, pthen_nx, pthen_rt, pthen_exc, pthen_stuck, pOpt_some, pOk_some, endP_nx, endP_rt, endP_exc, endP_stuck, pbind_ite, pw_ite, pthen_ite, endP_ite, ite_and, ite_or, pand_bl, por_bl, pT, tru_bl, tru_int, tru_non, isNon_non, isNon_bl, isNon_int, isNon_str, isNon_l, isNon_t, isaD_non, isaD_bl, isaD_int, isaD_str, isaD_l, isaD_t, isTy, List.any_cons, List.any_nil, retP_ok, retP_exc, retP_ite, mthP_append, mthP_extend, seqOf_sq, tru_sq, isNon_sq, isaLT_sq, isaL_sq, isaT_sq, len_sq, list_sq, tuple_sq, ix_sq, slc_sq, setPg_sq, seqOf_l, seqOf_t, startP_eq, setPs, setPg_one, setPg_t, setPg_l, wipeP, backP, bin, cmp_lt_i, cmp_le_i, cmp_gt_i, cmp_ge_i, cmp_eq_i, cmp_ne_i, cmp_eq_b, cmp_ne_b, abs_i, len_l, len_t, list_l, list_t, tuple_l, tuple_t, max_2, min_2, int_i, int_b, negD, intD, ix_l, ix_t, slc_l, slc_t, at_0, at_1, at_2, at_m1, List.getElem?_cons_succ, List.getElem?_cons_zero, List.set_cons_succ, List.set_cons_zero, List.length_cons, List.length_nil, List.length_map, List.length_append, List.map_cons, List.map_nil, List.cons_append, List.nil_append, List.append_nil, List.replicate_succ, List.replicate_zero, Option.bind_some, Option.getD_some, Option.getD_none, Nat.reduceAdd, Nat.reduceSub, Nat.reduceLeDiff, Nat.reduceEqDiff, Nat.sub_self, sz0, sz1, sz2, sz3, sz4, sz5, sz6, sz7, sz8, szN, if_true, if_false, ite_true, ite_false, reduceIte, Bool.false_eq_true, Bool.true_eq_false, Bool.not_true, Bool.not_false, Bool.true_and, Bool.false_and, Bool.and_true, Bool.and_false, Bool.true_or, Bool.false_or, Bool.or_true, Bool.or_false, decide_true, decide_false, reduceCtorEq, ne_eq, not_false_eq_true, implies_true, $ls,*])
local macro_rules | `(tactic| simp_arith [$ls,*] at $h:ident) => `(tactic| simp -implicitDefEqProofs only [qL_nil, qL_cons, qE_non, qE_bl, qE_int, qE_str, qE_var, qE_op2, qE_cmp, qE_chn, qE_not, qE_ite, qE_lst, qE_tup, qE_ix, qE_blt, qE_lc, qE_lrng, qCs_nil, qCs_cons, qA_nil, qA_cons, qSt_nil, qSt_cons, qP_nil, qIt_rng, qIt_e, qN_nil, qN_cons, qS_expr, qS_asg, qS_asgT, qS_par, qS_parO, qS_setIx, qS_ret, qS_retN, qS_ite, qS_for, qS_raise, qS_pass, qS_wipe, qS_scope, rS_spoil, rE_and, rE_or, rE_isN, rE_notN, rE_isa, rE_slc, rE_neg, rP_cons, rSt_star, rIt_zip, rIt_enm, rE_call, rE_callK, rE_mth, pbind_ok, pbind_exc, pbind_stuck, pw_ok, pw_exc, pw_stuck, pthen_nx, pthen_rt, pthen_exc, pthen_stuck, pOpt_some, pOk_some, endP_nx, endP_rt, endP_exc, endP_stuck, pbind_ite, pw_ite, pthen_ite, endP_ite, ite_and, ite_or, pand_bl, por_bl, pT, tru_bl, tru_int, tru_non, isNon_non, isNon_bl, isNon_int, isNon_str, isNon_l, isNon_t, isaD_non, isaD_bl, isaD_int, isaD_str, isaD_l, isaD_t, isTy, List.any_cons, List.any_nil, retP_ok, retP_exc, retP_ite, mthP_append, mthP_extend, seqOf_sq, tru_sq, isNon_sq, isaLT_sq, isaL_sq, isaT_sq, len_sq, list_sq, tuple_sq, ix_sq, slc_sq, setPg_sq, seqOf_l, seqOf_t, startP_eq, setPs, setPg_one, setPg_t, setPg_l, wipeP, backP, bin, cmp_lt_i, cmp_le_i, cmp_gt_i, cmp_ge_i, cmp_eq_i, cmp_ne_i, cmp_eq_b, cmp_ne_b, abs_i, len_l, len_t, list_l, list_t, tuple_l, tuple_t, max_2, min_2, int_i, int_b, negD, intD, ix_l, ix_t, slc_l, slc_t, at_0, at_1, at_2, at_m1, List.getElem?_cons_succ, List.getElem?_cons_zero, List.set_cons_succ, List.set_cons_zero, List.length_cons, List.length_nil, List.length_map, List.length_append, List.map_cons, List.map_nil, List.cons_append, List.nil_append, List.append_nil, List.replicate_succ, List.replicate_zero, Option.bind_some, Option.getD_some, Option.getD_none, Nat.reduceAdd, Nat.reduceSub, Nat.reduceLeDiff, Nat.reduceEqDiff, Nat.sub_self, sz0, sz1, sz2, sz3, sz4, sz5, sz6, sz7, sz8, szN, if_true, if_false, ite_true, ite_false, reduceIte, Bool.false_eq_true, Bool.true_eq_false, Bool.not_true, Bool.not_false, Bool.true_and, Bool.false_and, Bool.and_true, Bool.and_false, Bool.true_or, Bool.false_or, Bool.or_true, Bool.or_false, decide_true, decide_false, reduceCtorEq, ne_eq, not_false_eq_true, implies_true, $ls,*] at $h:ident)
/-! ### stretches by the law's own ends -/
abbrev Ct2 := Int × Int
def eD (c : Ct2) : D := .tup [.int c.1, .int c.2]
def ltC (a b : Ct2) : Bool := decide (a.1 < b.1) || (decide (a.1 = b.1) && decide (a.2 < b.2))
def leC (a b : Ct2) : Bool := decide (a.1 < b.1) || (decide (a.1 = b.1) && decide (a.2 ≤ b.2))
theorem cmp_lt_C {a b : Ct2} : cmpD .lt (eD a) (eD b) = some (ltC a b) := by
  have e : ∀ x y : Int, intsOf [.int x, .int y] = some [x, y] := fun _ _ => rfl
  simp only [eD, cmpD, e, Option.bind_some, Option.map_some, HT.lexLt, ltC]
  congr 1
  by_cases h1 : a.1 = b.1
  · rw [if_pos h1]
    by_cases h2 : a.2 = b.2
    · rw [if_pos h2]; simp [h1, h2]
    · rw [if_neg h2]; simp [h1]
  · rw [if_neg h1]; simp [h1]
theorem cmp_le_C {a b : Ct2} : cmpD .le (eD a) (eD b) = some (leC a b) := by
  have e : ∀ x y : Int, intsOf [.int x, .int y] = some [x, y] := fun _ _ => rfl
  simp only [eD, cmpD, e, Option.bind_some, Option.map_some, lexLe, leC]
  congr 1
  show Ob.lexAt _ _ _ 0 2 = _
  rw [Ob.lexAt_succ, Ob.lexAt_succ, Ob.lexAt_zero]
  by_cases h1 : a.1 = b.1
  · by_cases h2 : a.2 = b.2
    · simp [h1, h2]
    · simp [h1, h2]
  · simp [h1]; omega
/-- how many points lie ahead of a cut -/
def cnt (ps : List Int) (c : Ct2) : Int := (ps.filter fun q => ltC (q, 0) c).length
def inn (ps : List Int) (a b : Ct2) : Int := (ps.filter fun q => leC a (q, 0) && ltC (q, 0) b).length
theorem cnt_0 {ps : List Int} {p : Int} : cnt ps (p, 0) = lo ps p := by
  unfold cnt lo ltC; simp
theorem cnt_1 {ps : List Int} {p : Int} : cnt ps (p, 1) = up ps p := by
  unfold cnt up ltC
  have : (fun q => decide (q < p) || (decide (q = p) && decide ((0 : Int) < 1))) = fun q => decide (q ≤ p) := by
    funext q; simp [Int.le_iff_lt_or_eq]
  simp only [this]
theorem leC_iff {a b : Ct2} : leC a b = !ltC b a := by
  unfold leC ltC
  by_cases h1 : a.1 < b.1
  · have : ¬ b.1 < a.1 := by omega
    have h2 : ¬ b.1 = a.1 := by omega
    simp [h1, this, h2]
  · by_cases h2 : a.1 = b.1
    · simp [h2]
      by_cases h3 : a.2 ≤ b.2
      · simp [h3]
      · simp [h3]; omega
    · have h3 : b.1 < a.1 := by omega
      simp [h1, h2, h3]
theorem ltC_trans {a b c : Ct2} (h : ltC a b = true) (k : leC b c = true) : ltC a c = true := by
  unfold ltC leC at *
  simp only [Bool.or_eq_true, Bool.and_eq_true, decide_eq_true_eq] at *
  omega
theorem inn_eq {a b : Ct2} (h : leC a b = true) : ∀ ps : List Int, inn ps a b = cnt ps b - cnt ps a
  | [] => rfl
  | q :: ps => by
    have ih := inn_eq h ps
    have e1 : inn (q :: ps) a b = (if leC a (q, 0) && ltC (q, 0) b then 1 else 0) + inn ps a b := by
      unfold inn; rw [List.filter_cons]; split <;> first | (simp; done) | (simp; omega)
    have e2 : ∀ c, cnt (q :: ps) c = (if ltC (q, 0) c then 1 else 0) + cnt ps c := fun c => by
      unfold cnt; rw [List.filter_cons]; split <;> first | (simp; done) | (simp; omega)
    rw [e1, e2, e2, ih, leC_iff]
    cases h1 : ltC (q, 0) a with
    | true =>
      have h2 := ltC_trans h1 h
      simp [h2]; omega
    | false => cases ltC (q, 0) b <;> simp <;> omega
/-- how far off the stretch from 0 to a cut is -/
def off (B : Int) (ps : List Int) (c : Ct2) : Int := cnt ps c * B - c.1 * ps.length
def endsF (B : Int) (ps : List Int) : List Ct2 := (ps ++ [B]).foldl (fun es p => es ++ [(p, 0), (p, 1)]) [(0, 0)]
def unStep (B : Int) (ps : List Int) (a : Ct2) (most : Int) (b : Ct2) : Int := if leC a b && decide (b.1 ≤ B) then (if absF (inn ps a b * B - (b.1 - a.1) * ps.length) > most then absF (inn ps a b * B - (b.1 - a.1) * ps.length) else most) else most
def unF (B : Int) (ps : List Int) : Int := (endsF B ps).foldl (fun m a => (endsF B ps).foldl (unStep B ps a) m) 0
theorem fold_ends : ∀ (qs : List Int) (es : List Ct2) (c : Ct2), c ∈ qs.foldl (fun es p => es ++ [(p, 0), (p, 1)]) es ↔ c ∈ es ∨ ∃ p ∈ qs, c = (p, 0) ∨ c = (p, 1)
  | [], es, c => by simp
  | q :: qs, es, c => by
    rw [List.foldl_cons, fold_ends qs]
    simp only [List.mem_append, List.mem_cons, List.not_mem_nil, or_false, exists_eq_or_imp]
    constructor
    · rintro ((h | h | h) | h)
      · exact .inl h
      · exact .inr (.inl (.inl h))
      · exact .inr (.inl (.inr h))
      · exact .inr (.inr h)
    · rintro (h | (h | h) | h)
      · exact .inl (.inl h)
      · exact .inl (.inr (.inl h))
      · exact .inl (.inr (.inr h))
      · exact .inr h
theorem fold_ends_len : ∀ (qs : List Int) (es : List Ct2), (qs.foldl (fun es p => es ++ [(p, 0), (p, 1)]) es).length = es.length + 2 * qs.length
  | [], es => by simp
  | q :: qs, es => by rw [List.foldl_cons, fold_ends_len qs]; simp; omega
theorem off_in {B : Int} {ps : List Int} (h : Pts B ps) {c : Ct2} (hc : c ∈ endsF B ps) : lw B ps ≤ off B ps c ∧ off B ps c ≤ hi B ps ∧ 0 ≤ c.1 ∧ c.1 ≤ B := by
  obtain ⟨g1, g2, g3⟩ := lw_le h
  have b1 := h.b1
  unfold endsF at hc
  rw [fold_ends] at hc
  rcases hc with hc | ⟨p, hp, hc⟩
  · have hc : c = (0, 0) := by simpa using hc
    subst hc
    have l0 : lo ps 0 = 0 := lo_zero fun q hq => (h.p q hq).1
    unfold off
    rw [cnt_0, l0]
    simp only [Int.zero_mul, Int.sub_self]
    exact ⟨g1, g2, Int.le_refl _, by omega⟩
  · rcases List.mem_append.mp hp with hp | hp
    · obtain ⟨q1, q2, q3⟩ := lo_hi h hp
      obtain ⟨r1, r2⟩ := h.p p hp
      unfold off
      rcases hc with rfl | rfl
      · rw [cnt_0]; dsimp only; exact ⟨by omega, by omega, r1, by omega⟩
      · rw [cnt_1]; dsimp only; exact ⟨by omega, by omega, r1, by omega⟩
    · have hp : p = B := by simpa using hp
      subst hp
      have l1 : lo ps p = ps.length := lo_all fun q hq => (h.p q hq).2
      have u1 : up ps p = ps.length := up_all fun q hq => by have := (h.p q hq).2; omega
      unfold off
      rcases hc with rfl | rfl
      · rw [cnt_0, l1, Int.mul_comm, Int.sub_self]; exact ⟨g1, g2, by show 0 ≤ p; omega, Int.le_refl _⟩
      · rw [cnt_1, u1, Int.mul_comm, Int.sub_self]; exact ⟨g1, g2, by show 0 ≤ p; omega, Int.le_refl _⟩
theorem inn_off {B : Int} {ps : List Int} {a b : Ct2} (h : leC a b = true) : inn ps a b * B - (b.1 - a.1) * ps.length = off B ps b - off B ps a := by
  rw [inn_eq h]
  unfold off
  rw [Int.sub_mul, Int.sub_mul]; omega
theorem leC_total {a b : Ct2} : leC a b = true ∨ leC b a = true := by
  unfold leC
  simp only [Bool.or_eq_true, Bool.and_eq_true, decide_eq_true_eq]
  omega
theorem fold_grow {α : Type} {f : Int → α → Int} {P : Int → Prop} {g : α → Int} : ∀ (xs : List α) (m : Int), P m → (∀ x ∈ xs, ∀ m, P m → P (f m x) ∧ m ≤ f m x ∧ g x ≤ f m x) → P (xs.foldl f m) ∧ m ≤ xs.foldl f m ∧ ∀ x ∈ xs, g x ≤ xs.foldl f m
  | [], m, h, _ => ⟨h, Int.le_refl _, fun x hx => (by cases hx)⟩
  | x :: xs, m, h, k => by
    obtain ⟨k1, k2, k3⟩ := k x List.mem_cons_self m h
    obtain ⟨i1, i2, i3⟩ := fold_grow xs (f m x) k1 fun y hy => k y (List.mem_cons_of_mem _ hy)
    rw [List.foldl_cons]
    refine ⟨i1, by omega, fun y hy => ?_⟩
    rcases List.mem_cons.mp hy with rfl | hy
    · omega
    · exact i3 y hy
theorem un_eq {B : Int} {ps : List Int} (h : Pts B ps) : unF B ps = hi B ps - lw B ps := by
  obtain ⟨g1, g2, g3⟩ := lw_le h
  obtain ⟨⟨e1, he1, h1⟩, _⟩ := hi_is h
  obtain ⟨⟨e2, he2, h2⟩, _⟩ := lw_is h
  have one : ∀ a ∈ endsF B ps, ∀ m, (0 ≤ m ∧ m ≤ hi B ps - lw B ps) → (0 ≤ (endsF B ps).foldl (unStep B ps a) m ∧ (endsF B ps).foldl (unStep B ps a) m ≤ hi B ps - lw B ps) ∧ m ≤ (endsF B ps).foldl (unStep B ps a) m ∧ ∀ b ∈ endsF B ps, (if leC a b then absF (off B ps b - off B ps a) else 0) ≤ (endsF B ps).foldl (unStep B ps a) m := fun a ha m hm => by
    refine fold_grow (P := fun m => 0 ≤ m ∧ m ≤ hi B ps - lw B ps) (endsF B ps) m hm fun b hb m hm => ?_
    obtain ⟨a1, a2, _, _⟩ := off_in h ha
    obtain ⟨b1, b2, _, b4⟩ := off_in h hb
    unfold unStep
    by_cases hl : leC a b = true
    · have hc : (leC a b && decide (b.1 ≤ B)) = true := by simp [hl, b4]
      rw [if_pos hc, inn_off hl, if_pos hl]
      obtain ⟨x, hx⟩ : ∃ x, x = off B ps b - off B ps a := ⟨_, rfl⟩
      rw [← hx]
      have : absF x ≤ hi B ps - lw B ps := by unfold absF; split <;> omega
      have : 0 ≤ absF x := by unfold absF; split <;> omega
      split <;> omega
    · have hc : (leC a b && decide (b.1 ≤ B)) = false := by simp [hl]
      rw [if_neg (by simp [hc]), if_neg hl]
      omega
  have all := fold_grow (P := fun m => 0 ≤ m ∧ m ≤ hi B ps - lw B ps) (f := fun m a => (endsF B ps).foldl (unStep B ps a) m)
    (g := fun a => (if leC a (e1, 1) then absF (off B ps (e1, 1) - off B ps a) else 0)) (endsF B ps) 0 ⟨Int.le_refl _, by omega⟩ (fun a ha m hm => by
      obtain ⟨o1, o2, o3⟩ := one a ha m hm
      refine ⟨o1, o2, o3 (e1, 1) ?_⟩
      unfold endsF; rw [fold_ends]; exact .inr ⟨e1, List.mem_append_left _ he1, .inr rfl⟩)
  have all2 := fold_grow (P := fun m => 0 ≤ m ∧ m ≤ hi B ps - lw B ps) (f := fun m a => (endsF B ps).foldl (unStep B ps a) m)
    (g := fun a => (if leC a (e2, 0) then absF (off B ps (e2, 0) - off B ps a) else 0)) (endsF B ps) 0 ⟨Int.le_refl _, by omega⟩ (fun a ha m hm => by
      obtain ⟨o1, o2, o3⟩ := one a ha m hm
      refine ⟨o1, o2, o3 (e2, 0) ?_⟩
      unfold endsF; rw [fold_ends]; exact .inr ⟨e2, List.mem_append_left _ he2, .inl rfl⟩)
  have m1 : (e1, 1) ∈ endsF B ps := by unfold endsF; rw [fold_ends]; exact .inr ⟨e1, List.mem_append_left _ he1, .inr rfl⟩
  have m2 : (e2, 0) ∈ endsF B ps := by unfold endsF; rw [fold_ends]; exact .inr ⟨e2, List.mem_append_left _ he2, .inl rfl⟩
  have o1 : off B ps (e1, 1) = hi B ps := by unfold off; rw [cnt_1]; exact h1.symm
  have o2 : off B ps (e2, 0) = lw B ps := by unfold off; rw [cnt_0]; exact h2.symm
  have bound := all.1.2
  have key : hi B ps - lw B ps ≤ unF B ps := by
    rcases leC_total (a := (e2, 0)) (b := (e1, 1)) with hl | hl
    · have := all.2.2 _ m2
      simp only [hl, if_true, o1, o2] at this
      have e : absF (hi B ps - lw B ps) = hi B ps - lw B ps := by unfold absF; rw [if_neg (by omega)]
      rw [e] at this
      exact this
    · have := all2.2.2 _ m1
      simp only [hl, if_true, o1, o2] at this
      have e : absF (lw B ps - hi B ps) = hi B ps - lw B ps := by unfold absF; split <;> omega
      rw [e] at this
      exact this
  have : unF B ps ≤ hi B ps - lw B ps := bound
  omega
/-! ### the defs -/
def cutI (a N : Int) : D := cutD2 a.toNat N.toNat
theorem c_lessenedI {n : Nat} {a N : Int} (ha : 0 ≤ a) (h0 : 0 < N) (h : N < 1000000000) {s : List Stm} : callP Pr (n + 2) "lessened" [.int a, .int N] s = .ok (cutI a N) s := by
  obtain ⟨x, rfl⟩ : ∃ x : Nat, a = x := ⟨a.toNat, by omega⟩
  obtain ⟨y, rfl⟩ : ∃ y : Nat, N = y := ⟨N.toNat, by omega⟩
  exact c_lessened (by omega) (by omega)
theorem c_cutI {n : Nat} {a N : Int} (ha : 0 ≤ a) (h0 : 0 < N) (h : N < 1000000000) {s : List Stm} : callP Pr (n + 2) "_law_cut" [.int a, .int N] s = .ok (cutI a N) s := by
  obtain ⟨x, rfl⟩ : ∃ x : Nat, a = x := ⟨a.toNat, by omega⟩
  obtain ⟨y, rfl⟩ : ∃ y : Nat, N = y := ⟨N.toNat, by omega⟩
  exact c_cut (by omega) (by omega)
theorem pts_N {B : Int} {ps : List Int} (h : Pts B ps) : 0 < B * ps.length ∧ B * ps.length ≤ 20000 ∧ 0 < (ps.length : Int) := by
  have n0 := List.length_pos_iff.mpr h.n0
  have b1 := h.b1
  have b2 := h.b2
  have n1 := h.n1
  refine ⟨Int.mul_pos (by omega) (by omega), ?_, by omega⟩
  have : B * ps.length ≤ 1000 * 20 := Int.mul_le_mul b2 (by omega) (by omega) (by omega)
  omega
theorem c_star {n : Nat} {B : Int} {ps : List Int} {b : Bool} (h : Pts B ps) {s : List Stm} : callP Pr (n + 5) "star" [.int B, sq b (ps.map .int)] s = .ok (cutI (sgap B ps) (B * ps.length)) s := by
  obtain ⟨N1, N2, N3⟩ := pts_N h
  obtain ⟨g1, g2, g3⟩ := lw_le h
  have n1 := h.n1
  have m1 : mulOk B (ps.length : Int) = true := mulB (by have := h.b1; have := h.b2; omega) (by omega)
  have hlen : (gapsF B ps).length = ps.length := by unfold gapsF; rw [List.length_map, enmP_len, sortI_lenP]
  rw [callP_eq l_star rfl]
  simp_arith [i_star, s_check_points, c_check_points h, s_gaps_of, c_gaps h]
  rw [plc_map (gapsF B ps) D.int (fun g => .int (B - g)) (by rw [hlen]; unfold SZ; omega) ?h1]
  case h1 =>
    intro g hg
    simp only [plT]
    simp_arith [CT, and_self]
  have e1 : (gapsF B ps).map D.int ++ (gapsF B ps).map (fun g => D.int (B - g)) = (gapsF B ps ++ (gapsF B ps).map fun g => B - g).map D.int := by simp
  have hsz : (gapsF B ps).length + (gapsF B ps).length ≤ 16777216 := by rw [hlen]; omega
  have ne : gapsF B ps ++ ((gapsF B ps).map fun g => B - g) ≠ [] := by
    have := gaps_ne (B := B) h.n0
    simp [this]
  have emx : maxI (gapsF B ps ++ (gapsF B ps).map fun g => B - g) = sgap B ps := by
    refine maxI_eq ?_ ?_
    · unfold sgap
      split
      · refine List.mem_append_right _ (List.mem_map.mpr ⟨minI (gapsF B ps), minI_memP (gaps_ne h.n0), ?_⟩)
        unfold lw; omega
      · exact List.mem_append_left _ (maxI_memP (gaps_ne h.n0))
    · intro y hy
      rcases List.mem_append.mp hy with hy | hy
      · have : y ≤ hi B ps := maxI_upP hy
        unfold sgap; split <;> omega
      · obtain ⟨g, hg, rfl⟩ := List.mem_map.mp hy
        have := minI_loP hg
        unfold sgap lw at *
        split <;> omega
  simp_arith [e1, hsz, max_ints ne, emx, m1, s_lessened, c_lessenedI (show 0 ≤ sgap B ps by unfold sgap; split <;> omega) N1 (show B * ps.length < 1000000000 by omega)]
theorem c_unfair {n : Nat} {B : Int} {ps : List Int} {b : Bool} (h : Pts B ps) {s : List Stm} : callP Pr (n + 5) "unfair" [.int B, sq b (ps.map .int)] s = .ok (cutI (hi B ps - lw B ps) (B * ps.length)) s := by
  obtain ⟨N1, N2, N3⟩ := pts_N h
  obtain ⟨g1, g2, g3⟩ := lw_le h
  have n1 := h.n1
  have m1 : mulOk B (ps.length : Int) = true := mulB (by have := h.b1; have := h.b2; omega) (by omega)
  have e1 : B + maxI (gapsF B ps) - minI (gapsF B ps) = hi B ps - lw B ps := by unfold hi lw; omega
  rw [callP_eq l_unfair rfl]
  simp_arith [i_unfair, s_check_points, c_check_points h, s_gaps_of, c_gaps h, max_ints (gaps_ne h.n0), min_ints (gaps_ne h.n0), e1, m1, s_lessened, c_lessenedI (show 0 ≤ hi B ps - lw B ps by omega) N1 (show B * ps.length < 1000000000 by omega)]
end Lk74

namespace Lk74
open PySem Sd
local macro_rules | `(tactic| simp_arith [$ls,*]) => `(tactic| simp -implicitDefEqProofs only [qL_nil, qL_cons, qE_non, qE_bl, qE_int, qE_str, qE_var, qE_op2, qE_cmp, qE_chn, qE_not, qE_ite, qE_lst, qE_tup, qE_ix, qE_blt, qE_lc, qE_lrng, qCs_nil, qCs_cons, qA_nil, qA_cons, qSt_nil, qSt_cons, qP_nil, qIt_rng, qIt_e, qN_nil, qN_cons, qS_expr, qS_asg, qS_asgT, qS_par, qS_parO, qS_setIx, qS_ret, qS_retN, qS_ite, qS_for, qS_raise, qS_pass, qS_wipe, qS_scope, rS_spoil, rE_and, rE_or, rE_isN, rE_notN, rE_isa, rE_slc, rE_neg, rP_cons, rSt_star, rIt_zip, rIt_enm, rE_call, rE_callK, rE_mth, pbind_ok, pbind_exc, pbind_stuck, pw_ok, pw_exc, pw_stuck, pthen_nx, pthen_rt, pthen_exc, pthen_stuck, pOpt_some, pOk_some, endP_nx, endP_rt, endP_exc, endP_stuck, pbind_ite, pw_ite, pthen_ite, endP_ite, ite_and, ite_or, pand_bl, por_bl, pT, tru_bl, tru_int, tru_non, isNon_non, isNon_bl, isNon_int, isNon_str, isNon_l, isNon_t, isaD_non, isaD_bl, isaD_int, isaD_str, isaD_l, isaD_t, isTy, List.any_cons, List.any_nil, retP_ok, retP_exc, retP_ite, mthP_append, mthP_extend, seqOf_sq, tru_sq, isNon_sq, isaLT_sq, isaL_sq, isaT_sq, len_sq, list_sq, tuple_sq, ix_sq, slc_sq, setPg_sq, seqOf_l, seqOf_t, startP_eq, setPs, setPg_one, setPg_t, setPg_l, wipeP, backP, bin, cmp_lt_i, cmp_le_i, cmp_gt_i, cmp_ge_i, cmp_eq_i, cmp_ne_i, cmp_eq_b, cmp_ne_b, abs_i, len_l, len_t, list_l, list_t, tuple_l, tuple_t, max_2, min_2, int_i, int_b, negD, intD, ix_l, ix_t, slc_l, slc_t, at_0, at_1, at_2, at_m1, List.getElem?_cons_succ, List.getElem?_cons_zero, List.set_cons_succ, List.set_cons_zero, List.length_cons, List.length_nil, List.length_map, List.length_append, List.map_cons, List.map_nil, List.cons_append, List.nil_append, List.append_nil, List.replicate_succ, List.replicate_zero, Option.bind_some, Option.getD_some, Option.getD_none, Nat.reduceAdd, Nat.reduceSub, Nat.reduceLeDiff, Nat.reduceEqDiff, Nat.sub_self, sz0, sz1, sz2, sz3, sz4, sz5, sz6, sz7, sz8, szN, if_true, if_false, ite_true, ite_false, reduceIte, Bool.false_eq_true, Bool.true_eq_false, Bool.not_true, Bool.not_false, Bool.true_and, Bool.false_and, Bool.and_true, Bool.and_false, Bool.true_or, Bool.false_or, Bool.or_true, Bool.or_false, decide_true, decide_false, reduceCtorEq, ne_eq, not_false_eq_true, implies_true, $ls,*])
local macro_rules | `(tactic| simp_arith [$ls,*] at $h:ident) => `(tactic| simp -implicitDefEqProofs only [qL_nil, qL_cons, qE_non, qE_bl, qE_int, qE_str, qE_var, qE_op2, qE_cmp, qE_chn, qE_not, qE_ite, qE_lst, qE_tup, qE_ix, qE_blt, qE_lc, qE_lrng, qCs_nil, qCs_cons, qA_nil, qA_cons, qSt_nil, qSt_cons, qP_nil, qIt_rng, qIt_e, qN_nil, qN_cons, qS_expr, qS_asg, qS_asgT, qS_par, qS_parO, qS_setIx, qS_ret, qS_retN, qS_ite, qS_for, qS_raise, qS_pass, qS_wipe, qS_scope, rS_spoil, rE_and, rE_or, rE_isN, rE_notN, rE_isa, rE_slc, rE_neg, rP_cons, rSt_star, rIt_zip, rIt_enm, rE_call, rE_callK, rE_mth, pbind_ok, pbind_exc, pbind_stuck, pw_ok, pw_exc, pw_stuck, pthen_nx, pthen_rt, pthen_exc, pthen_stuck, pOpt_some, pOk_some, endP_nx, endP_rt, endP_exc, endP_stuck, pbind_ite, pw_ite, pthen_ite, endP_ite, ite_and, ite_or, pand_bl, por_bl, pT, tru_bl, tru_int, tru_non, isNon_non, isNon_bl, isNon_int, isNon_str, isNon_l, isNon_t, isaD_non, isaD_bl, isaD_int, isaD_str, isaD_l, isaD_t, isTy, List.any_cons, List.any_nil, retP_ok, retP_exc, retP_ite, mthP_append, mthP_extend, seqOf_sq, tru_sq, isNon_sq, isaLT_sq, isaL_sq, isaT_sq, len_sq, list_sq, tuple_sq, ix_sq, slc_sq, setPg_sq, seqOf_l, seqOf_t, startP_eq, setPs, setPg_one, setPg_t, setPg_l, wipeP, backP, bin, cmp_lt_i, cmp_le_i, cmp_gt_i, cmp_ge_i, cmp_eq_i, cmp_ne_i, cmp_eq_b, cmp_ne_b, abs_i, len_l, len_t, list_l, list_t, tuple_l, tuple_t, max_2, min_2, int_i, int_b, negD, intD, ix_l, ix_t, slc_l, slc_t, at_0, at_1, at_2, at_m1, List.getElem?_cons_succ, List.getElem?_cons_zero, List.set_cons_succ, List.set_cons_zero, List.length_cons, List.length_nil, List.length_map, List.length_append, List.map_cons, List.map_nil, List.cons_append, List.nil_append, List.append_nil, List.replicate_succ, List.replicate_zero, Option.bind_some, Option.getD_some, Option.getD_none, Nat.reduceAdd, Nat.reduceSub, Nat.reduceLeDiff, Nat.reduceEqDiff, Nat.sub_self, sz0, sz1, sz2, sz3, sz4, sz5, sz6, sz7, sz8, szN, if_true, if_false, ite_true, ite_false, reduceIte, Bool.false_eq_true, Bool.true_eq_false, Bool.not_true, Bool.not_false, Bool.true_and, Bool.false_and, Bool.and_true, Bool.and_false, Bool.true_or, Bool.false_or, Bool.or_true, Bool.or_false, decide_true, decide_false, reduceCtorEq, ne_eq, not_false_eq_true, implies_true, $ls,*] at $h:ident)
theorem max_3 {a b c : Int} : bltD .max [.lst [.int a, .int b, .int c]] = some (false, .int (maxI [a, b, c])) := max_ints (xs := [a, b, c]) (by simp)
theorem cnt_small {ps : List Int} {p : Int → Bool} (h : ps.length ≤ 20) : 0 ≤ ((ps.filter p).length : Int) ∧ ((ps.filter p).length : Int) ≤ 20 := by
  have := List.length_filter_le p ps
  omega
theorem c_law_star {n : Nat} {B : Int} {ps : List Int} (h : Pts B ps) {s : List Stm} : callP Pr (n + 3) "_law_star" [.int B, .lst (ps.map .int)] s = .ok (cutI (sgap B ps) (B * ps.length)) s := by
  obtain ⟨N1, N2, N3⟩ := pts_N h
  obtain ⟨g1, g2, g3⟩ := lw_le h
  have n1 := h.n1
  have b1 := h.b1
  have b2 := h.b2
  have m1 : mulOk B (ps.length : Int) = true := mulB (by omega) (by omega)
  have hsz : (sortI ps).length + 1 ≤ 16777216 := by rw [sortI_lenP]; omega
  have e1 : (sortI ps).map D.int ++ [D.int B] = (sortI ps ++ [B]).map D.int := by simp
  refine call_of l__law_star rfl ?_
  simp only [i__law_star]
  refine PW.gen fun T hN hR hX => ?_
  simp_arith []
  refine hN _ ?_
  refine PW.gen fun T hN hR hX => ?_
  simp_arith [sorted_intsL, hsz, e1]
  rw [pfo_fold (E := fun m => ⟨[some (.int B), some (.lst (ps.map .int)), some (.int (ps.length : Int)), some (.int m), none, none, none, none], s⟩) D.int (starStep B ps) (fun es m => (∀ e ∈ es, 0 ≤ e ∧ e ≤ B)) (b := 0) rfl ?hi ?h]
  case hi =>
    intro e he
    rcases List.mem_append.mp he with he | he
    · have := h.p e (sortI_memP.mp he); omega
    · have : e = B := by simpa using he
      omega
  case h =>
    intro e es m hall
    obtain ⟨q1, q2⟩ := hall e List.mem_cons_self
    refine ⟨?_, fun x hx => hall x (List.mem_cons_of_mem _ hx)⟩
    have f1 := cnt_small (p := fun q => decide (q < e)) n1
    have f2 := cnt_small (p := fun q => decide (q ≤ e)) n1
    have m2 : mulOk ((ps.filter fun q => decide (q < e)).length : Int) B = true := mulB (by omega) (by omega)
    have m3 : mulOk ((ps.filter fun q => decide (q ≤ e)).length : Int) B = true := mulB (by omega) (by omega)
    have m4 : mulOk e (ps.length : Int) = true := mulB (by omega) (by omega)
    simp only [pft]
    simp_arith []
    rw [plc_filter ps D.int (fun q => decide (q < e)) D.int (by unfold SZ; omega) ?h1]
    case h1 =>
      intro q hq
      simp only [plT]
      simp_arith []
      by_cases hqe : q < e <;> simp_arith [hqe, CT, and_self]
    simp_arith []
    rw [plc_filter ps D.int (fun q => decide (q ≤ e)) D.int (by unfold SZ; omega) ?h2]
    case h2 =>
      intro q hq
      simp only [plT]
      simp_arith []
      by_cases hqe : q ≤ e <;> simp_arith [hqe, CT, and_self]
    simp_arith [m2, m3, m4, max_3]
    rfl
  refine hN _ ?_
  have es : (sortI ps ++ [B]).foldl (starStep B ps) 0 = sgap B ps := star_eq h
  rw [es]
  refine PW.gen fun T hN hR hX => ?_
  simp_arith [m1, s__law_cut, c_cutI (show 0 ≤ sgap B ps by unfold sgap; split <;> omega) N1 (show B * ps.length < 1000000000 by omega)]
  exact hR _ _ ⟨rfl, rfl⟩
theorem eD_def {a b : Int} : D.tup [.int a, .int b] = eD (a, b) := rfl
theorem ix_e0 {c : Ct2} : ixD (eD c) (.int 0) = some (.int c.1) := at_0
theorem c_law_unfair {n : Nat} {B : Int} {ps : List Int} (h : Pts B ps) {s : List Stm} : callP Pr (n + 3) "_law_unfair" [.int B, .lst (ps.map .int)] s = .ok (cutI (hi B ps - lw B ps) (B * ps.length)) s := by
  obtain ⟨N1, N2, N3⟩ := pts_N h
  obtain ⟨g1, g2, g3⟩ := lw_le h
  have n1 := h.n1
  have b1 := h.b1
  have b2 := h.b2
  have m1 : mulOk B (ps.length : Int) = true := mulB (by omega) (by omega)
  have e1 : ps.map D.int ++ [D.int B] = (ps ++ [B]).map D.int := by simp
  have hsz : ps.length + 1 ≤ 16777216 := by omega
  have helen : (endsF B ps).length ≤ 50 := by unfold endsF; rw [fold_ends_len]; simp; omega
  refine call_of l__law_unfair rfl ?_
  simp only [i__law_unfair]
  refine PW.gen fun T hN hR hX => ?_
  simp_arith []
  refine hN _ ?_
  refine PW.gen fun T hN hR hX => ?_
  simp_arith [hsz, e1, eD_def]
  rw [pfo_fold (E := fun es => ⟨[some (.int B), some (.lst (ps.map .int)), some (.int (ps.length : Int)), some (.int 0), some (.lst (es.map eD)), none, none, none, none, none], s⟩) D.int (fun es p => es ++ [(p, 0), (p, 1)]) (fun rest es => es.length + 2 * rest.length ≤ 50) (b := [(0, 0)]) ?hc ?hi ?h]
  case hc => rfl
  case hi => simp; omega
  case h =>
    intro p rest es hl
    simp only [List.length_cons] at hl
    refine ⟨?_, by simp; omega⟩
    have hz : (es.map eD).length + [eD (p, 0), eD (p, 1)].length ≤ SZ := by unfold SZ; simp; omega
    have hz2 : es.length + 2 ≤ SZ := by unfold SZ; omega
    simp only [pft]
    simp_arith [eD_def, hz2, List.map_append]
  refine hN _ ?_
  show PW (qL _ _ _ ⟨[_, _, _, _, some (.lst ((endsF B ps).map eD)), _, _, _, _, _], s⟩) _ _ _
  refine PW.gen fun T hN hR hX => ?_
  simp_arith []
  rw [pfo_fold (E := fun m => ⟨[some (.int B), some (.lst (ps.map .int)), some (.int (ps.length : Int)), some (.int m), some (.lst ((endsF B ps).map eD)), none, none, none, none, none], s⟩) eD (fun m a => (endsF B ps).foldl (unStep B ps a) m) (fun rest _ => ∀ a ∈ rest, a ∈ endsF B ps) (b := 0) rfl (fun a ha => ha) ?h]
  case h =>
    intro a rest m hall
    refine ⟨?_, fun x hx => hall x (List.mem_cons_of_mem _ hx)⟩
    have ha := hall a List.mem_cons_self
    obtain ⟨_, _, a3, a4⟩ := off_in h ha
    simp only [pft]
    simp_arith []
    rw [pfo_fold (E := fun m => ⟨[some (.int B), some (.lst (ps.map .int)), some (.int (ps.length : Int)), some (.int m), some (.lst ((endsF B ps).map eD)), none, some (eD a), none, none, none], s⟩) eD (unStep B ps a) (fun rest _ => ∀ a ∈ rest, a ∈ endsF B ps) (b := m) rfl (fun a ha => ha) ?h2]
    case h2 =>
      intro b rest m hall
      refine ⟨?_, fun x hx => hall x (List.mem_cons_of_mem _ hx)⟩
      obtain ⟨_, _, b3, b4⟩ := off_in h (hall b List.mem_cons_self)
      have f1 := cnt_small (p := fun q => leC a (q, 0) && ltC (q, 0) b) n1
      have m2 : mulOk ((ps.filter fun q => leC a (q, 0) && ltC (q, 0) b).length : Int) B = true := mulB (by omega) (by omega)
      have m3 : mulOk (b.1 - a.1) (ps.length : Int) = true := mulB (by omega) (by omega)
      simp only [pft]
      simp_arith [cmp_le_C, ix_e0]
      unfold unStep
      cases hc : (leC a b && decide (b.1 ≤ B)) with
      | false => simp_arith [hc]
      | true =>
        simp_arith [hc]
        rw [plc_filter ps D.int (fun q => leC a (q, 0) && ltC (q, 0) b) D.int (by unfold SZ; omega) ?h3]
        case h3 =>
          intro q hq
          simp only [plT]
          simp_arith [eD_def, cmp_le_C, cmp_lt_C]
          cases h1 : leC a (q, 0) <;> cases h2 : ltC (q, 0) b <;> simp_arith [h1, h2, CT, and_self, cmp_lt_C]
        simp_arith [ix_e0, m2, m3]
        rfl
    simp_arith []
  refine hN _ ?_
  have es : (endsF B ps).foldl (fun m a => (endsF B ps).foldl (unStep B ps a) m) 0 = hi B ps - lw B ps := un_eq h
  rw [es]
  refine PW.gen fun T hN hR hX => ?_
  simp_arith [m1, s__law_cut, c_cutI (show 0 ≤ hi B ps - lw B ps by omega) N1 (show B * ps.length < 1000000000 by omega)]
  exact hR _ _ ⟨rfl, rfl⟩
end Lk74

namespace Lk74
open PySem Sd
local macro_rules | `(tactic| simp_arith [$ls,*]) => `(tactic| simp -implicitDefEqProofs only [qL_nil, qL_cons, qE_non, qE_bl, qE_int, qE_str, qE_var, qE_op2, qE_cmp, qE_chn, qE_not, qE_ite, qE_lst, qE_tup, qE_ix, qE_blt, qE_lc, qE_lrng, qCs_nil, qCs_cons, qA_nil, qA_cons, qSt_nil, qSt_cons, qP_nil, qIt_rng, qIt_e, qN_nil, qN_cons, qS_expr, qS_asg, qS_asgT, qS_par, qS_parO, qS_setIx, qS_ret, qS_retN, qS_ite, qS_for, qS_raise, qS_pass, qS_wipe, qS_scope, rS_spoil, rE_and, rE_or, rE_isN, rE_notN, rE_isa, rE_slc, rE_neg, rP_cons, rSt_star, rIt_zip, rIt_enm, rE_call, rE_callK, rE_mth, pbind_ok, pbind_exc, pbind_stuck, pw_ok, pw_exc, pw_stuck, pthen_nx, pthen_rt, pthen_exc, pthen_stuck, pOpt_some, pOk_some, endP_nx, endP_rt, endP_exc, endP_stuck, pbind_ite, pw_ite, pthen_ite, endP_ite, ite_and, ite_or, pand_bl, por_bl, pT, tru_bl, tru_int, tru_non, isNon_non, isNon_bl, isNon_int, isNon_str, isNon_l, isNon_t, isaD_non, isaD_bl, isaD_int, isaD_str, isaD_l, isaD_t, isTy, List.any_cons, List.any_nil, retP_ok, retP_exc, retP_ite, mthP_append, mthP_extend, seqOf_sq, tru_sq, isNon_sq, isaLT_sq, isaL_sq, isaT_sq, len_sq, list_sq, tuple_sq, ix_sq, slc_sq, setPg_sq, seqOf_l, seqOf_t, startP_eq, setPs, setPg_one, setPg_t, setPg_l, wipeP, backP, bin, cmp_lt_i, cmp_le_i, cmp_gt_i, cmp_ge_i, cmp_eq_i, cmp_ne_i, cmp_eq_b, cmp_ne_b, abs_i, len_l, len_t, list_l, list_t, tuple_l, tuple_t, max_2, min_2, int_i, int_b, negD, intD, ix_l, ix_t, slc_l, slc_t, at_0, at_1, at_2, at_m1, List.getElem?_cons_succ, List.getElem?_cons_zero, List.set_cons_succ, List.set_cons_zero, List.length_cons, List.length_nil, List.length_map, List.length_append, List.map_cons, List.map_nil, List.cons_append, List.nil_append, List.append_nil, List.replicate_succ, List.replicate_zero, Option.bind_some, Option.getD_some, Option.getD_none, Nat.reduceAdd, Nat.reduceSub, Nat.reduceLeDiff, Nat.reduceEqDiff, Nat.sub_self, sz0, sz1, sz2, sz3, sz4, sz5, sz6, sz7, sz8, szN, if_true, if_false, ite_true, ite_false, reduceIte, Bool.false_eq_true, Bool.true_eq_false, Bool.not_true, Bool.not_false, Bool.true_and, Bool.false_and, Bool.and_true, Bool.and_false, Bool.true_or, Bool.false_or, Bool.or_true, Bool.or_false, decide_true, decide_false, reduceCtorEq, ne_eq, not_false_eq_true, implies_true, $ls,*])
local macro_rules | `(tactic| simp_arith [$ls,*] at $h:ident) => `(tactic| simp -implicitDefEqProofs only [qL_nil, qL_cons, qE_non, qE_bl, qE_int, qE_str, qE_var, qE_op2, qE_cmp, qE_chn, qE_not, qE_ite, qE_lst, qE_tup, qE_ix, qE_blt, qE_lc, qE_lrng, qCs_nil, qCs_cons, qA_nil, qA_cons, qSt_nil, qSt_cons, qP_nil, qIt_rng, qIt_e, qN_nil, qN_cons, qS_expr, qS_asg, qS_asgT, qS_par, qS_parO, qS_setIx, qS_ret, qS_retN, qS_ite, qS_for, qS_raise, qS_pass, qS_wipe, qS_scope, rS_spoil, rE_and, rE_or, rE_isN, rE_notN, rE_isa, rE_slc, rE_neg, rP_cons, rSt_star, rIt_zip, rIt_enm, rE_call, rE_callK, rE_mth, pbind_ok, pbind_exc, pbind_stuck, pw_ok, pw_exc, pw_stuck, pthen_nx, pthen_rt, pthen_exc, pthen_stuck, pOpt_some, pOk_some, endP_nx, endP_rt, endP_exc, endP_stuck, pbind_ite, pw_ite, pthen_ite, endP_ite, ite_and, ite_or, pand_bl, por_bl, pT, tru_bl, tru_int, tru_non, isNon_non, isNon_bl, isNon_int, isNon_str, isNon_l, isNon_t, isaD_non, isaD_bl, isaD_int, isaD_str, isaD_l, isaD_t, isTy, List.any_cons, List.any_nil, retP_ok, retP_exc, retP_ite, mthP_append, mthP_extend, seqOf_sq, tru_sq, isNon_sq, isaLT_sq, isaL_sq, isaT_sq, len_sq, list_sq, tuple_sq, ix_sq, slc_sq, setPg_sq, seqOf_l, seqOf_t, startP_eq, setPs, setPg_one, setPg_t, setPg_l, wipeP, backP, bin, cmp_lt_i, cmp_le_i, cmp_gt_i, cmp_ge_i, cmp_eq_i, cmp_ne_i, cmp_eq_b, cmp_ne_b, abs_i, len_l, len_t, list_l, list_t, tuple_l, tuple_t, max_2, min_2, int_i, int_b, negD, intD, ix_l, ix_t, slc_l, slc_t, at_0, at_1, at_2, at_m1, List.getElem?_cons_succ, List.getElem?_cons_zero, List.set_cons_succ, List.set_cons_zero, List.length_cons, List.length_nil, List.length_map, List.length_append, List.map_cons, List.map_nil, List.cons_append, List.nil_append, List.append_nil, List.replicate_succ, List.replicate_zero, Option.bind_some, Option.getD_some, Option.getD_none, Nat.reduceAdd, Nat.reduceSub, Nat.reduceLeDiff, Nat.reduceEqDiff, Nat.sub_self, sz0, sz1, sz2, sz3, sz4, sz5, sz6, sz7, sz8, szN, if_true, if_false, ite_true, ite_false, reduceIte, Bool.false_eq_true, Bool.true_eq_false, Bool.not_true, Bool.not_false, Bool.true_and, Bool.false_and, Bool.and_true, Bool.and_false, Bool.true_or, Bool.false_or, Bool.or_true, Bool.or_false, decide_true, decide_false, reduceCtorEq, ne_eq, not_false_eq_true, implies_true, $ls,*] at $h:ident)
/-! ### fractions -/
theorem toN {a : Int} (h : 0 ≤ a) : ((a.toNat : Nat) : Int) = a := by omega
/-- the parts of a cut fraction -/
theorem cut_parts {a N : Int} (ha : 0 ≤ a) (hN : 0 < N) : ∃ x y g : Int, cutI a N = .tup [.int x, .int y] ∧ 0 < g ∧ x * g = a ∧ y * g = N ∧ 0 ≤ x ∧ 0 < y := by
  have g0 : 0 < Nat.gcd a.toNat N.toNat := Nat.gcd_pos_of_pos_right _ (by omega)
  have d1 : ((Nat.gcd a.toNat N.toNat : Nat) : Int) ∣ a := by
    have : ((Nat.gcd a.toNat N.toNat : Nat) : Int) ∣ ((a.toNat : Nat) : Int) := Int.natCast_dvd_natCast.mpr (Nat.gcd_dvd_left _ _)
    rwa [toN ha] at this
  have d2 : ((Nat.gcd a.toNat N.toNat : Nat) : Int) ∣ N := by
    have : ((Nat.gcd a.toNat N.toNat : Nat) : Int) ∣ ((N.toNat : Nat) : Int) := Int.natCast_dvd_natCast.mpr (Nat.gcd_dvd_right _ _)
    rwa [toN (by omega : (0 : Int) ≤ N)] at this
  have e1 := Int.ediv_mul_cancel d1
  have e2 := Int.ediv_mul_cancel d2
  refine ⟨a / (Nat.gcd a.toNat N.toNat : Nat), N / (Nat.gcd a.toNat N.toNat : Nat), (Nat.gcd a.toNat N.toNat : Nat), ?_, by omega, e1, e2, Int.ediv_nonneg ha (by omega), ?_⟩
  · unfold cutI cutD2
    rw [toN ha, toN (by omega : (0 : Int) ≤ N)]
  · have hg : (0 : Int) < (Nat.gcd a.toNat N.toNat : Nat) := by omega
    by_cases h : 0 < N / (Nat.gcd a.toNat N.toNat : Nat)
    · exact h
    · have : N / (Nat.gcd a.toNat N.toNat : Nat) * (Nat.gcd a.toNat N.toNat : Nat) ≤ 0 := Int.mul_nonpos_of_nonpos_of_nonneg (by omega) (by omega)
      omega
/-- compared crosswise -/
theorem cross {x y g u v k a b N c : Int} (hg : 0 < g) (hk : 0 < k) (hx : x * g = a) (hy : y * g = N) (hu : u * k = b) (hv : v * k = N) (hN : 0 < N) (h : c * a ≤ b) : c * x * v ≤ u * y := by
  have h1 : (c * x * v) * (g * k) = (c * a) * N := by rw [← hx, ← hv]; ac_rfl
  have h2 : (u * y) * (g * k) = b * N := by rw [← hu, ← hy]; ac_rfl
  have h3 : (c * a) * N ≤ b * N := Int.mul_le_mul_of_nonneg_right h (by omega)
  rw [← h1, ← h2] at h3
  exact Int.le_of_mul_le_mul_right h3 (Int.mul_pos hg hk)
theorem cross2 {x y g c a N : Int} (hg : 0 < g) (hx : x * g = a) (hy : y * g = N) (h : N ≤ c * a) : y ≤ c * x := by
  have h1 : (c * x) * g = c * a := by rw [← hx]; ac_rfl
  rw [← hy, ← h1] at h
  exact Int.le_of_mul_le_mul_right h hg
/-! ### best points -/
def odds (m : Nat) : List Int := (List.range m).map fun (k : Nat) => 2 * (k : Int) + 1
def bestD (m : Nat) : D := .tup [.int (2 * (m : Int)), .lst ((odds m).map .int)]
theorem c_best {n m : Nat} (h1 : 1 ≤ m) (h2 : m ≤ 20) {s : List Stm} : callP Pr (n + 3) "best_points" [.int (m : Int)] s = .ok (bestD m) s := by
  have m1 : mulOk 2 (m : Int) = true := mulB (by omega) (by omega)
  rw [callP_eq l_best_points rfl]
  simp_arith [i_best_points, s_check_many, c_check_many (B := (m : Int)) (by omega), m1, rng_nat (m := m) (by omega)]
  rw [plc_map (List.range m) _ (fun (k : Nat) => .int (2 * (k : Int) + 1)) (by rw [List.length_range]; unfold SZ; omega) ?h]
  case h =>
    intro k hk
    have := List.mem_range.mp hk
    have m2 : mulOk 2 (k : Int) = true := mulB (by omega) (by omega)
    simp only [plT]
    simp_arith [m2, CT, and_self]
  simp_arith [bestD, odds, List.map_map, Function.comp_def]
theorem lrng_odds {m : Nat} (h1 : 1 ≤ m) (h2 : m ≤ 20) : lrngD [.int 1, .int (2 * (m : Int)), .int 2] = some ((odds m).map .int) := by
  have key : ∀ m : Nat, m < 21 → 1 ≤ m → (match lrngD [.int 1, .int (2 * (m : Int)), .int 2] with | some xs => decide (intsOf xs = some (odds m)) | none => false) = true := by decide +kernel
  have k := key m (by omega) h1
  split at k
  · rename_i xs e
    rw [e, intsOf_inv (of_decide_eq_true k)]
  · cases k
theorem odds_asc : ∀ (k m : Nat), Asc ((List.range' k m).map fun (k : Nat) => 2 * (k : Int) + 1)
  | k, 0 => .nil
  | k, m + 1 => by
    rw [List.range'_succ]
    refine .cons (fun q hq => ?_) (odds_asc (k + 1) m)
    obtain ⟨j, hj, rfl⟩ := List.mem_map.mp hq
    have := List.mem_range'_1.mp hj
    dsimp only
    omega
theorem sort_asc : ∀ {s : List Int}, Asc s → sortI s = s
  | [], _ => rfl
  | x :: s, .cons h k => by
    simp only [sortI]
    rw [sort_asc k]
    cases s with
    | nil => rfl
    | cons y s => simp only [insI]; rw [if_pos (h y List.mem_cons_self)]
theorem odds_len {m : Nat} : (odds m).length = m := by unfold odds; simp
theorem odds_pts {m : Nat} (h1 : 1 ≤ m) (h2 : m ≤ 20) : Pts (2 * (m : Int)) (odds m) := by
  refine ⟨by omega, by omega, fun e => ?_, by rw [odds_len]; exact h2, fun q hq => ?_⟩
  · have := congrArg List.length e
    rw [odds_len] at this
    simp at this; omega
  · unfold odds at hq
    obtain ⟨k, hk, rfl⟩ := List.mem_map.mp hq
    have := List.mem_range.mp hk
    omega
theorem odds_gap {m : Nat} (h1 : 1 ≤ m) (h2 : m ≤ 20) : sgap (2 * (m : Int)) (odds m) = m := by
  have hp := odds_pts h1 h2
  have hs : sortI (odds m) = odds m := sort_asc (by unfold odds; rw [List.range_eq_range']; exact odds_asc 0 m)
  have all : ∀ g ∈ gapsF (2 * (m : Int)) (odds m), g = (m : Int) := fun g hg => by
    obtain ⟨k, e, h3, h4⟩ := gap_at.mp hg
    rw [hs] at h3
    unfold odds at h3
    rw [List.getElem?_map] at h3
    have hk : k < m := by
      by_cases hk : k < m
      · exact hk
      · rw [List.getElem?_eq_none (by simp; omega)] at h3; cases h3
    rw [List.getElem?_range hk] at h3
    simp only [Option.map_some, Option.some.injEq] at h3
    rw [h4, ← h3, odds_len, Int.add_mul, Int.add_mul]
    have : 2 * (k : Int) * m = k * (2 * (m : Int)) := by ac_rfl
    omega
  have e1 : hi (2 * (m : Int)) (odds m) = m := all _ (maxI_memP (gaps_ne hp.n0))
  have e2 : minI (gapsF (2 * (m : Int)) (odds m)) = m := all _ (minI_memP (gaps_ne hp.n0))
  unfold sgap lw
  rw [e1, e2]
  split <;> omega
theorem odds_star {m : Nat} (h1 : 1 ≤ m) (h2 : m ≤ 20) : cutI (m : Int) (2 * (m : Int) * m) = .tup [.int 1, .int (2 * (m : Int))] := by
  have key : ∀ m : Nat, m < 21 → 1 ≤ m → (match cutI (m : Int) (2 * (m : Int) * m) with | .tup [.int x, .int y] => decide (x = 1) && decide (y = 2 * (m : Int)) | _ => false) = true := by decide +kernel
  have k := key m (by omega) h1
  split at k
  · rename_i x y e
    simp only [Bool.and_eq_true, decide_eq_true_eq] at k
    rw [e, k.1, k.2]
  · cases k
/-! ### the law -/
theorem bn1 : ∀ x y : D, byName (["bottom", "points"] : List Str) [] ["points", "bottom"] [x, y] = some [y, x] := fun _ _ => rfl
theorem bn2 : ∀ x : D, byName (["many"] : List Str) [] ["many"] [x] = some [x] := fun _ => rfl
/-- a turn's points are asked -/
def askI : List IS := lawI.drop 3
theorem law_split : lawI = lawI.take 3 ++ askI := (List.take_append_drop 3 lawI).symm
theorem sm_cut {a N : Int} {n : Nat} : smOk (n + 1) (cutI a N) = true := smOk_t (by unfold SZ; simp) (by intro x hx; simp at hx; rcases hx with rfl | rfl <;> exact smOk_int)
theorem asked {ps : List Int} {m : Nat} (hm : ps.length = m) {B : Int} (h : Pts B ps) {t : Stm} (ht : StK 1 t) {s0 s1 : Option D} {N : PC → Prop} (hN : ∀ c : PC, c.e[0]? = some s0 → c.e.length = 14 → N c) :
    PW (qL (callP Pr 20) (sgOf Pr) askI ⟨[s0, s1, some (.stm 0), some (.int B), some (.int (m : Int)), some (.lst (ps.map .int)), none, none, none, none, none, none, none, none], [t]⟩) N (fun _ _ => False) noX := by
  obtain ⟨N1, N2, N3⟩ := pts_N h
  obtain ⟨g1, g2, g3⟩ := lw_le h
  obtain ⟨g4, g5⟩ := hi_big h
  have n1 := h.n1
  have b1 := h.b1
  have b2 := h.b2
  have m1 : 1 ≤ m := by omega
  have m2 : m ≤ 20 := by omega
  obtain ⟨b, t', el, ht'⟩ := c_loose hD hLoose (n := 18) (b := true) (xs := ps) (k := 0) ht (by omega)
  have el : callP Pr 20 "_law_loose" [.stm 0, .lst (ps.map .int)] [t] = .ok (sq b (ps.map .int)) [t'] := el
  have ca := c_star (n := 15) (b := b) (s := [t']) h
  have cb := c_star (n := 15) (b := true) (s := [t']) h
  have cc := c_unfair (n := 15) (b := b) (s := [t']) h
  have cd := c_unfair (n := 15) (b := true) (s := [t']) h
  rw [sq_true] at cb cd
  have small : intTs 59 (ps.map .int) = true := intTs_map fun q hq => intT_int (by have := h.p q hq; omega)
  have small2 : intT 60 (sq b (ps.map .int)) = true := intT_sq small
  have hrep : bltD .repr [sq b (ps.map .int)] = some (false, lookD (sq b (ps.map .int))) := repr_sq small2 (by rw [nodes_sq, nodess_ints]; omega)
  have sg0 : 0 ≤ sgap B ps := by unfold sgap; split <;> omega
  have sg1 : sgap B ps ≤ 20000 := by unfold sgap; split <;> omega
  have c1 := c_same hSame 2 (.lst [cutI (sgap B ps) (B * ps.length), cutI (sgap B ps) (B * ps.length), cutI (hi B ps - lw B ps) (B * ps.length), cutI (hi B ps - lw B ps) (B * ps.length)]) 17 [t'] (smOk_l (by unfold SZ; simp) (by intro x hx; simp at hx; rcases hx with rfl | rfl <;> exact sm_cut))
  -- the fractions' parts
  obtain ⟨x, y, g, e1, pg, px1, py1, x0, y0⟩ := cut_parts sg0 N1
  obtain ⟨u, v, k, e2, pk, pu, pv, u0, v0⟩ := cut_parts (a := hi B ps - lw B ps) (by omega) N1
  rw [e1] at c1 ca cb
  rw [e2] at c1 cc cd
  have cla := c_law_star (n := 17) (s := [t']) h
  have clb := c_law_unfair (n := 17) (s := [t']) h
  rw [e1] at cla
  rw [e2] at clb
  have xs : x ≤ 20000 := by
    have : x * 1 ≤ x * g := Int.mul_le_mul_of_nonneg_left (by omega) x0
    omega
  have us : u ≤ 40000 := by
    have : u * 1 ≤ u * k := Int.mul_le_mul_of_nonneg_left (by omega) u0
    omega
  have ys : y ≤ 20000 := by
    have : y * 1 ≤ y * g := Int.mul_le_mul_of_nonneg_left (by omega) (by omega)
    omega
  have vs : v ≤ 20000 := by
    have : v * 1 ≤ v * k := Int.mul_le_mul_of_nonneg_left (by omega) (by omega)
    omega
  have i1 : x * v ≤ u * y := by
    have := cross (c := 1) pg pk px1 py1 pu pv N1 (by unfold sgap; split <;> omega)
    rwa [Int.one_mul] at this
  have i2 : u * y ≤ 2 * x * v := by
    have := cross (c := 1) (a := hi B ps - lw B ps) (b := 2 * sgap B ps) (u := 2 * x) (x := u) (v := y) (y := v) pk pg pu pv (by rw [← px1]; ac_rfl) py1 N1 (by unfold sgap; split <;> omega)
    rwa [Int.one_mul] at this
  have i3 : y ≤ 2 * (m : Int) * x := by
    refine cross2 (c := 2 * (m : Int)) pg px1 py1 ?_
    have h1 : B ≤ 2 * sgap B ps := by unfold sgap; split <;> omega
    have h2 : B * (m : Int) ≤ 2 * sgap B ps * (m : Int) := Int.mul_le_mul_of_nonneg_right h1 (by omega)
    have h3 : 2 * sgap B ps * (m : Int) = 2 * (m : Int) * sgap B ps := by ac_rfl
    rw [hm]; omega
  have i4 : v ≤ (m : Int) * u := by
    refine cross2 (c := (m : Int)) pk pu pv ?_
    have h2 : B * (m : Int) ≤ (hi B ps - lw B ps) * (m : Int) := Int.mul_le_mul_of_nonneg_right g3 (by omega)
    rw [hm, Int.mul_comm (m : Int)]; exact h2
  have q1 : mulOk x v = true := mulB (by omega) (by omega)
  have q2 : mulOk u y = true := mulB (by omega) (by omega)
  have q3 : mulOk 2 x = true := mulB (by omega) (by omega)
  have q4 : mulOk (2 * x) v = true := mulB (by omega) (by omega)
  have q5 : mulOk 2 (m : Int) = true := mulB (by omega) (by omega)
  have q6 : mulOk (2 * (m : Int)) x = true := mulB (by omega) (by omega)
  have q7 : mulOk (m : Int) u = true := mulB (by omega) (by omega)
  have r1 : decide (u * y < x * v) = false := decide_eq_false (by omega)
  have r2 : decide (2 * x * v < u * y) = false := decide_eq_false (by omega)
  have r3 : decide (2 * (m : Int) * x < y) = false := decide_eq_false (by omega)
  have r4 : decide ((m : Int) * u < v) = false := decide_eq_false (by omega)
  have cbp := c_best (n := 17) (s := [t']) m1 m2
  have cbs := c_star (n := 15) (b := true) (s := [t']) (odds_pts m1 m2)
  rw [sq_true, odds_gap m1 m2, odds_len, odds_star m1 m2] at cbs
  have smB : ∀ n, smOk (n + 2) (bestD m) = true := fun n => smOk_t (by unfold SZ; simp) (by
    intro z hz
    simp at hz
    rcases hz with rfl | rfl
    · exact smOk_int
    · exact smOk_l (by rw [List.length_map, odds_len]; unfold SZ; omega) (by intro w hw; obtain ⟨i, _, rfl⟩ := List.mem_map.mp hw; exact smOk_int))
  have cs2 := c_same hSame 3 (.lst [bestD m, bestD m]) 16 [t'] (smOk_l (by unfold SZ; simp) (by intro z hz; simp at hz; subst hz; exact smB 0))
  have cs3 := c_same hSame 2 (bestD m) 17 [t'] (smB 0)
  have cs4 := c_same hSame 1 (.tup [.int 1, .int (2 * (m : Int))]) 18 [t'] (smOk_t (by unfold SZ; simp) (by intro z hz; simp at hz; rcases hz with rfl | rfl <;> exact smOk_int))
  have bi1 : ixD (bestD m) (.int 1) = some (.lst ((odds m).map .int)) := at_1
  have due : D.tup [.int (2 * (m : Int)), .lst ((odds m).map .int)] = bestD m := rfl
  have sp1 : spG (.lst [.lst ((odds m).map .int), .lst ((odds m).map .int)]) = true := by
    unfold spG
    simp only [spOk, spOks, spOks_intsP, Bool.and_self, Bool.true_and]
    exact decide_eq_true (by simp only [nodes, nodess, nodess_ints, odds_len]; unfold SZ; omega)
  unfold askI lawI
  simp only [List.drop]
  refine PW.gen fun T hN' hR hX => ?_
  simp_arith [s__law_loose, s__law_star, s__law_unfair, el, cla, clb]
  refine hN' _ (PW.gen fun T hN' hR hX => ?_)
  simp_arith [hrep, s_star, ca, cb, bn1]
  refine hN' _ (PW.gen fun T hN' hR hX => ?_)
  simp_arith [s_unfair, cc, cd, bn1]
  refine hN' _ (PW.gen fun T hN' hR hX => ?_)
  simp_arith [s__law_same, c1, hrep, look_ne small2]
  refine hN' _ (PW.gen fun T hN' hR hX => ?_)
  simp_arith [q1, q2, q3, q4, r1, r2]
  refine hN' _ (PW.gen fun T hN' hR hX => ?_)
  simp_arith [q5, q6, q7, r3, r4]
  refine hN' _ (PW.gen fun T hN' hR hX => ?_)
  simp_arith [q5, lrng_odds m1 m2, due]
  refine hN' _ (PW.gen fun T hN' hR hX => ?_)
  simp_arith [s_best_points, cbp, bn2, s__law_same, cs2, cs3, cs4, q5, bi1, s_star, cbs, sp1]
  refine hN' _ (PW.nil ?_)
  exact hN _ rfl rfl
theorem law_p (ad : Addr) (ns : List Int) (t : Int) (_ : ns.length ≤ 64) (_ : 0 ≤ t) (_ : t < (6 : Nat)) : ∃ p', pL (callP Pr 20) (sgOf Pr) lawI ⟨law2P ad t 11, [⟨ns, 0, 0, 19⟩]⟩ = .nx p' ∧ p'.e[0]? = some (some (.obj ad)) ∧ p'.e.length = 11 + 3 := by
  refine law2_wp ?_
  have h0 : StK (100 + 3) ⟨ns, 0, 0, 19⟩ := ⟨(by decide : (0 : Int) ≤ 0), (by decide : (0 : Int) + (103 : Nat) < cntMax), (by decide : (0 : Int) ≤ 19), (by decide : (19 : Int) < 2147483629)⟩
  obtain ⟨x, t1, e1, p1, h1⟩ := c_pick hD hPick (n := 18) (k := 102) (xs := [.int 4, .int 12, .int 1000]) h0 (by simp) (by simp)
  have e1 : callP Pr 20 "_law_pick" [.stm 0, .lst [.int 4, .int 12, .int 1000]] [⟨ns, 0, 0, 19⟩] = .ok x [t1] := e1
  obtain ⟨w, rfl, w0, w1⟩ : ∃ w : Nat, x = .int (w : Int) ∧ 0 < w ∧ w ≤ 1000 := by
    simp at p1
    rcases p1 with rfl | rfl | rfl
    · exact ⟨4, rfl, by omega, by omega⟩
    · exact ⟨12, rfl, by omega, by omega⟩
    · exact ⟨1000, rfl, by omega, by omega⟩
  obtain ⟨i2, t2, e2, a2, h2⟩ := call_drawP (P := Pr) (n := 19) (k := 101) hD h1 w0 (by omega)
  obtain ⟨i3, t3, e3, a3, h3⟩ := call_drawP (P := Pr) (n := 19) (k := 100) (m := 20) hD h2 (by omega) (by omega)
  have e3 : callP Pr 20 "_law_draw" [.stm 0, .int 20] [t2] = .ok (.int (i3 : Int)) [t3] := e3
  have z2 : (1 : Int) + (i2 : Int) = ((i2 + 1 : Nat) : Int) := by omega
  have z3 : (1 : Int) + (i3 : Int) = ((i3 + 1 : Nat) : Int) := by omega
  unfold law2P
  rw [law_split]
  unfold lawI
  simp only [List.take, List.cons_append, List.nil_append, List.replicate]
  refine PW.gen fun T hN hR hX => ?_
  simp_arith [s__law_draw, s__law_pick, e1, e2, e3, z2, z3]
  refine hN _ ?_
  -- drawn points
  obtain ⟨ds, t4, e4, l4, q4, h4⟩ := plc_draws (cl := callP Pr 20) (sg := sgOf Pr) (e := .call "_law_draw" [.var 2, .var 3] [] []) (ts := [6]) (one := true) (env := [some (.obj ad), some (.int t), some (.stm 0), some (.int ((i2 + 1 : Nat) : Int)), some (.int ((i3 + 1 : Nat) : Int)), none, none, none, none, none, none, none, none, none]) (k := 60)
    (List.range (i3 + 1)) (fun (k : Nat) => D.int (k : Int)) (fun _ d => ∃ i : Int, d = .int i ∧ 0 ≤ i ∧ i < ((i2 + 1 : Nat) : Int)) 1 (by rw [List.length_range]; unfold SZ; omega) (fun j hj k t ht => by
      obtain ⟨i, t', e, a, h⟩ := call_drawP (P := Pr) (n := 19) (m := i2 + 1) hD ht (by omega) (by omega)
      refine ⟨.int (i : Int), ?e, t', ?h, ⟨i, rfl, by omega, by omega⟩, h, ?w⟩
      case h =>
        simp only [plT]
        simp_arith [s__law_draw, e]
        rfl
      case w => rfl) (h3.le (by rw [List.length_range]; omega))
  rw [List.length_range] at l4
  obtain ⟨is, rfl, his⟩ := ints_of (zip_all (by rw [List.length_range]; exact l4) q4)
  rw [List.length_map] at l4
  obtain ⟨i5, t5, e5, a5, h5⟩ := call_drawP (P := Pr) (n := 19) (k := 59) (m := 3) hD h4 (by omega) (by omega)
  have e5 : callP Pr 20 "_law_draw" [.stm 0, .int 3] [t4] = .ok (.int (i5 : Int)) [t5] := e5
  refine PW.gen fun T hN hR hX => ?_
  simp_arith [rng_nat (m := i3 + 1) (by omega), e4]
  refine hN _ ?_
  have fin : ∀ (ps : List Int) (t6 : Stm), ps.length = i3 + 1 → (∀ q ∈ ps, 0 ≤ q ∧ q < ((i2 + 1 : Nat) : Int)) → StK 1 t6 → PW (qL (callP Pr 20) (sgOf Pr) askI ⟨[some (.obj ad), some (.int t), some (.stm 0), some (.int ((i2 + 1 : Nat) : Int)), some (.int ((i3 + 1 : Nat) : Int)), some (.lst (ps.map .int)), none, none, none, none, none, none, none, none], [t6]⟩) (fun c => c.e[0]? = some (some (.obj ad)) ∧ c.e.length = 11 + 3) (fun _ _ => False) noX := fun ps t6 hl hp ht =>
    asked hl (B := ((i2 + 1 : Nat) : Int)) ⟨by omega, by omega, fun e => by subst e; simp at hl, by omega, hp⟩ ht fun c hc0 hcl => ⟨hc0, hcl⟩
  refine PW.gen fun T hN hR hX => ?_
  simp_arith [s__law_draw, e5]
  by_cases hz : i5 = 0
  · subst hz
    have mk : ∀ j ∈ List.range (i3 + 1), 0 ≤ (j : Int) * ((i2 + 1 : Nat) : Int) / ((i3 + 1 : Nat) : Int) ∧ (j : Int) * ((i2 + 1 : Nat) : Int) / ((i3 + 1 : Nat) : Int) < ((i2 + 1 : Nat) : Int) := fun j hj => by
      have := List.mem_range.mp hj
      refine ⟨Int.ediv_nonneg (Int.mul_nonneg (by omega) (by omega)) (by omega), Int.ediv_lt_of_lt_mul (by omega) ?_⟩
      rw [Int.mul_comm]
      exact Int.mul_lt_mul_of_pos_left (by omega) (by omega)
    have dv : divOk ((i3 + 1 : Nat) : Int) = true := divB (by omega) (by omega)
    obtain ⟨ys, t6, e6, pm, h6⟩ := c_mixed hD hMixed (n := 18) (k := 1) (t := t5) (b := true) (xs := (List.range (i3 + 1)).map fun (j : Nat) => D.int ((j : Int) * ((i2 + 1 : Nat) : Int) / ((i3 + 1 : Nat) : Int))) (h5.le (by simp; omega)) (by simp; omega)
    have e6 : callP Pr 20 "_law_mixed" [.stm 0, .lst ((List.range (i3 + 1)).map fun (j : Nat) => D.int ((j : Int) * ((i2 + 1 : Nat) : Int) / ((i3 + 1 : Nat) : Int)))] [t5] = .ok (.lst ys) [t6] := e6
    have em : ((List.range (i3 + 1)).map fun (j : Nat) => D.int ((j : Int) * ((i2 + 1 : Nat) : Int) / ((i3 + 1 : Nat) : Int))) = ((List.range (i3 + 1)).map fun (j : Nat) => (j : Int) * ((i2 + 1 : Nat) : Int) / ((i3 + 1 : Nat) : Int)).map D.int := by rw [List.map_map]; rfl
    rw [em] at pm
    obtain ⟨zs, rfl, pz⟩ := perm_ints pm
    have b0 : ((((0 : Nat) : Int)) == 0) = true := rfl
    simp_arith [b0, rng_nat (m := i3 + 1) (by omega)]
    rw [plc_map (List.range (i3 + 1)) _ (fun (j : Nat) => D.int ((j : Int) * ((i2 + 1 : Nat) : Int) / ((i3 + 1 : Nat) : Int))) (by rw [List.length_range]; unfold SZ; omega) ?h]
    case h =>
      intro j hj
      have := List.mem_range.mp hj
      have m2 : mulOk (j : Int) ((i2 + 1 : Nat) : Int) = true := mulB (by omega) (by omega)
      simp only [plT]
      simp_arith [m2, dv, CT, and_self]
    simp_arith [s__law_mixed, e6]
    refine hN _ (fin zs t6 (by rw [pz.length_eq]; simp) (fun q hq => ?_) h6)
    obtain ⟨j, hj, rfl⟩ := List.mem_map.mp (pz.mem_iff.mp hq)
    exact mk j hj
  · have b0 : ((i5 : Int) == 0) = false := beq_eq_false_iff_ne.mpr (by omega)
    simp_arith [b0]
    exact hN _ (fin is t5 l4 his (h5.le (by omega)))
theorem law_ok : ∀ (ad : Addr) (ns : List Int) (t : Int), ns.length ≤ 64 → 0 ≤ t → t < (6 : Nat) → ∃ c', exL (callF Pr 20) (sgOf Pr) 1 false lawI ⟨law2R ad t 11, [⟨ns, 0, 0, 19⟩]⟩ = .nx c' ∧ (∃ f, c'.r[0]? = some (.sh f (.obj ad))) ∧ c'.r.length = 11 + 3 := law2_of look law_p
end Lk74

namespace Lk74
open PySem PySem.Spec PyProof.Rows L2 Sd
def top (i : Nat) : Stmt := PySem.Challenge.pw_sidestaken_k74_whole_main_stretches_off.main.body.getD i (.Pass ⟨0, 0, 0, 0⟩)
def us : List Str := ["_law_draw", "is_list", "is_whole", "is_number", "is_index", "divisor_of", "check_bottom", "check_points", "check_many", "lessened", "gaps_of", "star", "unfair", "best_points", "_law_pick", "_law_mixed", "_law_same", "_law_loose", "_law_divisor", "_law_cut", "_law_star", "_law_unfair"]
abbrev aL : Ann := ⟨["script", "turn", "stream", "bottom", "many", "points", "at", "handed", "near", "far", "look", "found", "due", "told"], ["found"], [154], [(138, [1, 2, 3, 4, 5, 7, 8, 9, 10, 11, 12, 13])]⟩
theorem t_is_list : TxtD us Pr "is_list" (top 1) ⟨["thing"], [], [], []⟩ ["thing"] := ⟨⟨rfl, rfl, rfl, by decide +kernel, rfl, by decide +kernel, by decide +kernel⟩, ⟨rfl, rfl, rfl, rfl⟩, rfl, by decide +kernel, by rfl⟩
theorem t_is_whole : TxtD us Pr "is_whole" (top 2) ⟨["thing"], [], [], []⟩ ["thing"] := ⟨⟨rfl, rfl, rfl, by decide +kernel, rfl, by decide +kernel, by decide +kernel⟩, ⟨rfl, rfl, rfl, rfl⟩, rfl, by decide +kernel, by rfl⟩
theorem t_is_number : TxtD us Pr "is_number" (top 3) ⟨["thing"], [], [], []⟩ ["thing"] := ⟨⟨rfl, rfl, rfl, by decide +kernel, rfl, by decide +kernel, by decide +kernel⟩, ⟨rfl, rfl, rfl, rfl⟩, rfl, by decide +kernel, by rfl⟩
theorem t_is_index : TxtD us Pr "is_index" (top 4) ⟨["thing", "many"], [], [], []⟩ ["thing", "many"] := ⟨⟨rfl, rfl, rfl, by decide +kernel, rfl, by decide +kernel, by decide +kernel⟩, ⟨rfl, rfl, rfl, rfl⟩, rfl, by decide +kernel, by rfl⟩
theorem t_divisor_of : TxtD us Pr "divisor_of" (top 5) ⟨["one", "other"], [], [], []⟩ ["one", "other"] := ⟨⟨rfl, rfl, rfl, by decide +kernel, rfl, by decide +kernel, by decide +kernel⟩, ⟨rfl, rfl, rfl, rfl⟩, rfl, by decide +kernel, by rfl⟩
theorem t_check_bottom : TxtD us Pr "check_bottom" (top 13) ⟨["bottom"], [], [], []⟩ ["bottom"] := ⟨⟨rfl, rfl, rfl, by decide +kernel, rfl, by decide +kernel, by decide +kernel⟩, ⟨rfl, rfl, rfl, rfl⟩, rfl, by decide +kernel, by rfl⟩
theorem t_check_points : TxtD us Pr "check_points" (top 14) ⟨["bottom", "points", "wrong", "index", "point"], [], [], []⟩ ["bottom", "points"] := ⟨⟨rfl, rfl, rfl, by decide +kernel, rfl, by decide +kernel, by decide +kernel⟩, ⟨rfl, rfl, rfl, rfl⟩, rfl, by decide +kernel, by rfl⟩
theorem t_check_many : TxtD us Pr "check_many" (top 15) ⟨["many"], [], [], []⟩ ["many"] := ⟨⟨rfl, rfl, rfl, by decide +kernel, rfl, by decide +kernel, by decide +kernel⟩, ⟨rfl, rfl, rfl, rfl⟩, rfl, by decide +kernel, by rfl⟩
theorem t_lessened : TxtD us Pr "lessened" (top 16) ⟨["top", "bottom", "by"], [], [], []⟩ ["top", "bottom"] := ⟨⟨rfl, rfl, rfl, by decide +kernel, rfl, by decide +kernel, by decide +kernel⟩, ⟨rfl, rfl, rfl, rfl⟩, rfl, by decide +kernel, by rfl⟩
theorem t_gaps_of : TxtD us Pr "gaps_of" (top 17) ⟨["bottom", "points", "rank", "point"], [], [], []⟩ ["bottom", "points"] := ⟨⟨rfl, rfl, rfl, by decide +kernel, rfl, by decide +kernel, by decide +kernel⟩, ⟨rfl, rfl, rfl, rfl⟩, rfl, by decide +kernel, by rfl⟩
theorem t_star : TxtD us Pr "star" (top 18) ⟨["bottom", "points", "gaps", "gap"], [], [], []⟩ ["bottom", "points"] := ⟨⟨rfl, rfl, rfl, by decide +kernel, rfl, by decide +kernel, by decide +kernel⟩, ⟨rfl, rfl, rfl, rfl⟩, rfl, by decide +kernel, by rfl⟩
theorem t_unfair : TxtD us Pr "unfair" (top 19) ⟨["bottom", "points", "gaps"], [], [], []⟩ ["bottom", "points"] := ⟨⟨rfl, rfl, rfl, by decide +kernel, rfl, by decide +kernel, by decide +kernel⟩, ⟨rfl, rfl, rfl, rfl⟩, rfl, by decide +kernel, by rfl⟩
theorem t_best_points : TxtD us Pr "best_points" (top 20) ⟨["many", "index"], [], [], []⟩ ["many"] := ⟨⟨rfl, rfl, rfl, by decide +kernel, rfl, by decide +kernel, by decide +kernel⟩, ⟨rfl, rfl, rfl, rfl⟩, rfl, by decide +kernel, by rfl⟩
theorem t__law_pick : TxtD us Pr "_law_pick" (top 24) ⟨["stream", "things"], [], [], []⟩ ["stream", "things"] := ⟨⟨rfl, rfl, rfl, by decide +kernel, rfl, by decide +kernel, by decide +kernel⟩, ⟨rfl, rfl, rfl, rfl⟩, rfl, by decide +kernel, by rfl⟩
theorem t__law_mixed : TxtD us Pr "_law_mixed" (top 25) ⟨["stream", "things", "left", "found", "k"], ["found", "left"], [], [(80, [4])]⟩ ["stream", "things"] := ⟨⟨rfl, rfl, rfl, by decide +kernel, rfl, by decide +kernel, by decide +kernel⟩, ⟨rfl, rfl, rfl, rfl⟩, rfl, by decide +kernel, by rfl⟩
theorem t__law_same : TxtD us Pr "_law_same" (top 26) ⟨["found", "due", "mine", "theirs"], [], [], []⟩ ["found", "due"] := ⟨⟨rfl, rfl, rfl, by decide +kernel, rfl, by decide +kernel, by decide +kernel⟩, ⟨rfl, rfl, rfl, rfl⟩, rfl, by decide +kernel, by rfl⟩
theorem t__law_loose : TxtD us Pr "_law_loose" (top 27) ⟨["stream", "thing", "some", "one"], [], [], []⟩ ["stream", "thing"] := ⟨⟨rfl, rfl, rfl, by decide +kernel, rfl, by decide +kernel, by decide +kernel⟩, ⟨rfl, rfl, rfl, rfl⟩, rfl, by decide +kernel, by rfl⟩
theorem t__law_divisor : TxtD us Pr "_law_divisor" (top 29) ⟨["one", "other"], [], [], []⟩ ["one", "other"] := ⟨⟨rfl, rfl, rfl, by decide +kernel, rfl, by decide +kernel, by decide +kernel⟩, ⟨rfl, rfl, rfl, rfl⟩, rfl, by decide +kernel, by rfl⟩
theorem t__law_cut : TxtD us Pr "_law_cut" (top 30) ⟨["top", "bottom", "by"], [], [], []⟩ ["top", "bottom"] := ⟨⟨rfl, rfl, rfl, by decide +kernel, rfl, by decide +kernel, by decide +kernel⟩, ⟨rfl, rfl, rfl, rfl⟩, rfl, by decide +kernel, by rfl⟩
theorem t__law_star : TxtD us Pr "_law_star" (top 31) ⟨["bottom", "points", "many", "most", "end", "below", "one", "upto"], [], [], [(122, [4, 5, 7])]⟩ ["bottom", "points"] := ⟨⟨rfl, rfl, rfl, by decide +kernel, rfl, by decide +kernel, by decide +kernel⟩, ⟨rfl, rfl, rfl, rfl⟩, rfl, by decide +kernel, by rfl⟩
theorem t__law_unfair : TxtD us Pr "_law_unfair" (top 32) ⟨["bottom", "points", "many", "most", "ends", "point", "begin", "end", "number", "one"], ["ends"], [], [(129, [5]), (131, [6, 7, 8]), (132, [7, 8])]⟩ ["bottom", "points"] := ⟨⟨rfl, rfl, rfl, by decide +kernel, rfl, by decide +kernel, by decide +kernel⟩, ⟨rfl, rfl, rfl, rfl⟩, rfl, by decide +kernel, by rfl⟩
def restOf (st : Stmt) : List Stmt := match defBody st with
  | .For _ _ b _ _ :: _ => b.drop 1
  | _ => []
theorem law_il : cL us aL 200 (defScope (top 33)) (restOf (top 33)) = lawI := by rfl
theorem all_mk {P : Program} {w : World} {K : PySem.W.Frag} {h : Heap} {mg : Str → Option Value} {fa : Addr} (X : K.In h) (G : h.Ns mainGlobals mg) (hfa : mg "law" = some (.ref fa)) (h_is_list : At K mg "is_list" (top 1)) (h_is_whole : At K mg "is_whole" (top 2)) (h_is_number : At K mg "is_number" (top 3)) (h_is_index : At K mg "is_index" (top 4)) (h_divisor_of : At K mg "divisor_of" (top 5)) (h_check_bottom : At K mg "check_bottom" (top 13)) (h_check_points : At K mg "check_points" (top 14)) (h_check_many : At K mg "check_many" (top 15)) (h_lessened : At K mg "lessened" (top 16)) (h_gaps_of : At K mg "gaps_of" (top 17)) (h_star : At K mg "star" (top 18)) (h_unfair : At K mg "unfair" (top 19)) (h_best_points : At K mg "best_points" (top 20)) (h__law_pick : At K mg "_law_pick" (top 24)) (h__law_mixed : At K mg "_law_mixed" (top 25)) (h__law_same : At K mg "_law_same" (top 26)) (h__law_loose : At K mg "_law_loose" (top 27)) (h__law_divisor : At K mg "_law_divisor" (top 29)) (h__law_cut : At K mg "_law_cut" (top 30)) (h__law_star : At K mg "_law_star" (top 31)) (h__law_unfair : At K mg "_law_unfair" (top 32)) (h__law_stream : At K mg "_law_stream" (top 22)) (h__law_draw : At K mg "_law_draw" (top 23)) (h__law_spoilt : At K mg "_law_spoilt" (top 28)) (h_law : At K mg "law" (top 33))
    (z0 : PySem.W.nsIn K mainGlobals "abs" = some none) (z1 : PySem.W.nsIn K mainGlobals "len" = some none) (z2 : PySem.W.nsIn K mainGlobals "list" = some none) (z3 : PySem.W.nsIn K mainGlobals "tuple" = some none) (z4 : PySem.W.nsIn K mainGlobals "sum" = some none) (z5 : PySem.W.nsIn K mainGlobals "max" = some none) (z6 : PySem.W.nsIn K mainGlobals "min" = some none) (z7 : PySem.W.nsIn K mainGlobals "all" = some none) (z8 : PySem.W.nsIn K mainGlobals "any" = some none) (z9 : PySem.W.nsIn K mainGlobals "sorted" = some none) (z10 : PySem.W.nsIn K mainGlobals "int" = some none) (z11 : PySem.W.nsIn K mainGlobals "repr" = some none) (z12 : PySem.W.nsIn K mainGlobals "dict" = some none) (z13 : PySem.W.nsIn K mainGlobals "bool" = some none) (z14 : PySem.W.nsIn K mainGlobals "str" = some none) (z15 : PySem.W.nsIn K mainGlobals "isinstance" = some none) (z16 : PySem.W.nsIn K mainGlobals "range" = some none) (z17 : PySem.W.nsIn K mainGlobals "zip" = some none) (z18 : PySem.W.nsIn K mainGlobals "enumerate" = some none)
    (law : ∀ (ad : Addr) (ns : List Int) (t : Int), ns.length ≤ 64 → 0 ≤ t → t < (6 : Nat) → ∃ c', exL (callF Pr 20) (sgOf Pr) 1 false lawI ⟨law2R ad t 11, [⟨ns, 0, 0, 19⟩]⟩ = .nx c' ∧ (∃ f, c'.r[0]? = some (.sh f (.obj ad))) ∧ c'.r.length = 11 + 3) :
    ∃ fd : FuncData, (∀ (s : Shared) (u : Value), BindsTo s fd ⟨[u], []⟩ [("script", u)]) ∧ ∀ base : Heap, K.In base → base.Ns mainGlobals mg → FnG P w K mg base (L2.CX P w) 42 fa fd ["script"] (spLaw K) := by
  have blt : ∀ x ∈ bnames, mg x = none := List.forall_mem_cons.mpr ⟨PySem.W.mg_none_of X G z0, List.forall_mem_cons.mpr ⟨PySem.W.mg_none_of X G z1, List.forall_mem_cons.mpr ⟨PySem.W.mg_none_of X G z2, List.forall_mem_cons.mpr ⟨PySem.W.mg_none_of X G z3, List.forall_mem_cons.mpr ⟨PySem.W.mg_none_of X G z4, List.forall_mem_cons.mpr ⟨PySem.W.mg_none_of X G z5, List.forall_mem_cons.mpr ⟨PySem.W.mg_none_of X G z6, List.forall_mem_cons.mpr ⟨PySem.W.mg_none_of X G z7, List.forall_mem_cons.mpr ⟨PySem.W.mg_none_of X G z8, List.forall_mem_cons.mpr ⟨PySem.W.mg_none_of X G z9, List.forall_mem_cons.mpr ⟨PySem.W.mg_none_of X G z10, List.forall_mem_cons.mpr ⟨PySem.W.mg_none_of X G z11, List.forall_mem_cons.mpr ⟨PySem.W.mg_none_of X G z12, List.forall_mem_cons.mpr ⟨PySem.W.mg_none_of X G z13, List.forall_mem_cons.mpr ⟨PySem.W.mg_none_of X G z14, List.forall_mem_cons.mpr ⟨PySem.W.mg_none_of X G z15, List.forall_mem_cons.mpr ⟨PySem.W.mg_none_of X G z16, List.forall_mem_cons.mpr ⟨PySem.W.mg_none_of X G z17, List.forall_mem_cons.mpr ⟨PySem.W.mg_none_of X G z18, fun _ h => nomatch h⟩⟩⟩⟩⟩⟩⟩⟩⟩⟩⟩⟩⟩⟩⟩⟩⟩⟩⟩
  refine At.law2 (a := aL) (rest := (restOf (top 33))) (N := 6) (q18 := ⟨0, 0, 0, 0⟩) (k := 40) (cl := callF Pr 20) (sg := sgOf Pr) (us := us) (ct := fun _ => none) h_law h__law_stream blt hfa ⟨rfl, rfl, rfl, by decide +kernel, rfl, by decide +kernel, by decide +kernel⟩ ⟨rfl, rfl, rfl, rfl⟩ rfl rfl rfl rfl ⟨rfl, rfl, rfl, by decide +kernel, rfl, by decide +kernel, by decide +kernel⟩ ⟨rfl, rfl, rfl, rfl⟩ rfl rfl rfl (by decide) rfl rfl rfl rfl rfl rfl (fun base _ _ => ?_) (fun ad ns t hl h0 h1 => by rw [law_il]; exact law ad ns t hl h0 h1)
  refine all_env (k0 := 21) blt (by decide +kernel) ?_ ?_ (fun h => absurd h (by decide +kernel)) ?_ 20
  · exact List.forall_mem_cons.mpr ⟨fun z => absurd rfl z, List.forall_mem_cons.mpr ⟨fun _ _ => h_is_list.row t_is_list, List.forall_mem_cons.mpr ⟨fun _ _ => h_is_whole.row t_is_whole, List.forall_mem_cons.mpr ⟨fun _ _ => h_is_number.row t_is_number, List.forall_mem_cons.mpr ⟨fun _ _ => h_is_index.row t_is_index, List.forall_mem_cons.mpr ⟨fun _ _ => h_divisor_of.row t_divisor_of, List.forall_mem_cons.mpr ⟨fun _ _ => h_check_bottom.row t_check_bottom, List.forall_mem_cons.mpr ⟨fun _ _ => h_check_points.row t_check_points, List.forall_mem_cons.mpr ⟨fun _ _ => h_check_many.row t_check_many, List.forall_mem_cons.mpr ⟨fun _ _ => h_lessened.row t_lessened, List.forall_mem_cons.mpr ⟨fun _ _ => h_gaps_of.row t_gaps_of, List.forall_mem_cons.mpr ⟨fun _ _ => h_star.row t_star, List.forall_mem_cons.mpr ⟨fun _ _ => h_unfair.row t_unfair, List.forall_mem_cons.mpr ⟨fun _ _ => h_best_points.row t_best_points, List.forall_mem_cons.mpr ⟨fun _ _ => h__law_pick.row t__law_pick, List.forall_mem_cons.mpr ⟨fun _ _ => h__law_mixed.row t__law_mixed, List.forall_mem_cons.mpr ⟨fun _ _ => h__law_same.row t__law_same, List.forall_mem_cons.mpr ⟨fun _ _ => h__law_loose.row t__law_loose, List.forall_mem_cons.mpr ⟨fun _ _ => h__law_divisor.row t__law_divisor, List.forall_mem_cons.mpr ⟨fun _ _ => h__law_cut.row t__law_cut, List.forall_mem_cons.mpr ⟨fun _ _ => h__law_star.row t__law_star, List.forall_mem_cons.mpr ⟨fun _ _ => h__law_unfair.row t__law_unfair, fun _ h => nomatch h⟩⟩⟩⟩⟩⟩⟩⟩⟩⟩⟩⟩⟩⟩⟩⟩⟩⟩⟩⟩⟩⟩
  · exact h__law_draw.draw rfl ⟨rfl, rfl, rfl, by decide +kernel, rfl, by decide +kernel, by decide +kernel⟩ (by decide +kernel) rfl rfl (blt _ (by decide)) (blt _ (by decide)) ⟨rfl, rfl, rfl, rfl⟩ rfl rfl rfl
  · exact h__law_spoilt.spoils blt ⟨⟨rfl, rfl, rfl, by decide +kernel, rfl, by decide +kernel, by decide +kernel⟩, rfl, rfl, rfl, rfl, rfl, rfl, rfl, ⟨rfl, rfl, rfl, rfl⟩, rfl⟩ rfl rfl
end Lk74
open PySem PySem.W PyProof.Rows
set_option maxHeartbeats 0 in
theorem PySem.Challenge.cw_sidestaken_k74_whole_main_stretches_off_holds : PySem.Challenge.rw_sidestaken_k74_whole_main_stretches_off.Holds := by
  w_on; o_law; k_head; (case hw => w_witness2)
  k_fill
  refine Sd.walk_ofG (l := PySem.Challenge.rw_sidestaken_k74_whole_main_stretches_off) (n := 63) (k := 42) (x := "script") (CX := fun w => L2.CX PySem.Challenge.pw_sidestaken_k74_whole_main_stretches_off w) (sp := fun w => Sd.spLaw _) rfl (by decide) rfl ⟨⟨rfl, by decide, by decide⟩, rfl⟩ (fun w h Y => PySem.W.kIn_of Y) ?F (fun _ _ a ns hl hS => ⟨a, ns, rfl, hS, hl, fun _ => rfl⟩) (fun _ _ _ _ _ ⟨_, _, _, _, _, _, _, _, _, _, _, _, h⟩ => h)
  case F =>
    intro w mg fa h KX G hmg
    refine' Lk74.all_mk KX G hmg (Sd.at_mk KX G ?a0 ?l0 ?c0 ?k0) (Sd.at_mk KX G ?a1 ?l1 ?c1 ?k1) (Sd.at_mk KX G ?a2 ?l2 ?c2 ?k2) (Sd.at_mk KX G ?a3 ?l3 ?c3 ?k3) (Sd.at_mk KX G ?a4 ?l4 ?c4 ?k4) (Sd.at_mk KX G ?a5 ?l5 ?c5 ?k5) (Sd.at_mk KX G ?a6 ?l6 ?c6 ?k6) (Sd.at_mk KX G ?a7 ?l7 ?c7 ?k7) (Sd.at_mk KX G ?a8 ?l8 ?c8 ?k8) (Sd.at_mk KX G ?a9 ?l9 ?c9 ?k9) (Sd.at_mk KX G ?a10 ?l10 ?c10 ?k10) (Sd.at_mk KX G ?a11 ?l11 ?c11 ?k11) (Sd.at_mk KX G ?a12 ?l12 ?c12 ?k12) (Sd.at_mk KX G ?a13 ?l13 ?c13 ?k13) (Sd.at_mk KX G ?a14 ?l14 ?c14 ?k14) (Sd.at_mk KX G ?a15 ?l15 ?c15 ?k15) (Sd.at_mk KX G ?a16 ?l16 ?c16 ?k16) (Sd.at_mk KX G ?a17 ?l17 ?c17 ?k17) (Sd.at_mk KX G ?a18 ?l18 ?c18 ?k18) (Sd.at_mk KX G ?a19 ?l19 ?c19 ?k19) (Sd.at_mk KX G ?a20 ?l20 ?c20 ?k20) (Sd.at_mk KX G ?a21 ?l21 ?c21 ?k21) (Sd.at_mk KX G ?a22 ?l22 ?c22 ?k22) (Sd.at_mk KX G ?a23 ?l23 ?c23 ?k23) (Sd.at_mk KX G ?a24 ?l24 ?c24 ?k24) ?z0 ?z1 ?z2 ?z3 ?z4 ?z5 ?z6 ?z7 ?z8 ?z9 ?z10 ?z11 ?z12 ?z13 ?z14 ?z15 ?z16 ?z17 ?z18 Lk74.law_ok
    (case a0 => k_is); (case l0 => k_is); (case c0 => k_is); (case k0 => k_is); (case a1 => k_is); (case l1 => k_is); (case c1 => k_is); (case k1 => k_is); (case a2 => k_is); (case l2 => k_is); (case c2 => k_is); (case k2 => k_is); (case a3 => k_is); (case l3 => k_is); (case c3 => k_is); (case k3 => k_is); (case a4 => k_is); (case l4 => k_is); (case c4 => k_is); (case k4 => k_is); (case a5 => k_is); (case l5 => k_is); (case c5 => k_is); (case k5 => k_is); (case a6 => k_is); (case l6 => k_is); (case c6 => k_is); (case k6 => k_is); (case a7 => k_is); (case l7 => k_is); (case c7 => k_is); (case k7 => k_is); (case a8 => k_is); (case l8 => k_is); (case c8 => k_is); (case k8 => k_is); (case a9 => k_is); (case l9 => k_is); (case c9 => k_is); (case k9 => k_is); (case a10 => k_is); (case l10 => k_is); (case c10 => k_is); (case k10 => k_is); (case a11 => k_is); (case l11 => k_is); (case c11 => k_is); (case k11 => k_is); (case a12 => k_is); (case l12 => k_is); (case c12 => k_is); (case k12 => k_is); (case a13 => k_is); (case l13 => k_is); (case c13 => k_is); (case k13 => k_is); (case a14 => k_is); (case l14 => k_is); (case c14 => k_is); (case k14 => k_is); (case a15 => k_is); (case l15 => k_is); (case c15 => k_is); (case k15 => k_is); (case a16 => k_is); (case l16 => k_is); (case c16 => k_is); (case k16 => k_is); (case a17 => k_is); (case l17 => k_is); (case c17 => k_is); (case k17 => k_is); (case a18 => k_is); (case l18 => k_is); (case c18 => k_is); (case k18 => k_is); (case a19 => k_is); (case l19 => k_is); (case c19 => k_is); (case k19 => k_is); (case a20 => k_is); (case l20 => k_is); (case c20 => k_is); (case k20 => k_is); (case a21 => k_is); (case l21 => k_is); (case c21 => k_is); (case k21 => k_is); (case a22 => k_is); (case l22 => k_is); (case c22 => k_is); (case k22 => k_is); (case a23 => k_is); (case l23 => k_is); (case c23 => k_is); (case k23 => k_is); (case a24 => k_is); (case l24 => k_is); (case c24 => k_is); (case k24 => k_is); (case z0 => k_is); (case z1 => k_is); (case z2 => k_is); (case z3 => k_is); (case z4 => k_is); (case z5 => k_is); (case z6 => k_is); (case z7 => k_is); (case z8 => k_is); (case z9 => k_is); (case z10 => k_is); (case z11 => k_is); (case z12 => k_is); (case z13 => k_is); (case z14 => k_is); (case z15 => k_is); (case z16 => k_is); (case z17 => k_is); (case z18 => k_is)

