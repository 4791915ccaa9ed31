/- The sums of layer 6, in plain Lean: the words, a block, a text. -/
namespace Sm

/-- A kind: words of B bits; n rounds; twelve turnings; constants; a beginning. -/
structure Kd where
  B : Nat
  n : Nat
  tn : List Nat
  ks : List Nat
  hs : List Nat

/-- Eight words. -/
structure V8 where
  a : Nat
  b : Nat
  c : Nat
  d : Nat
  e : Nat
  f : Nat
  g : Nat
  h : Nat
def V8.l (V : V8) : List Nat := [V.a, V.b, V.c, V.d, V.e, V.f, V.g, V.h]
@[reducible] def V8.lt (m : Nat) (V : V8) : Prop := V.a < m ∧ V.b < m ∧ V.c < m ∧ V.d < m ∧ V.e < m ∧ V.f < m ∧ V.g < m ∧ V.h < m
def V8.of (l : List Nat) : V8 := ⟨l.getD 0 0, l.getD 1 0, l.getD 2 0, l.getD 3 0, l.getD 4 0, l.getD 5 0, l.getD 6 0, l.getD 7 0⟩

def ror (B n x : Nat) : Nat := (x / 2 ^ n + x * 2 ^ (B - n)) % 2 ^ B
def mix (q : Kd) (i x : Nat) : Nat :=
  (ror q.B (q.tn.getD (3 * i) 0) x ^^^ ror q.B (q.tn.getD (3 * i + 1) 0) x) ^^^ (if i < 2 then ror q.B (q.tn.getD (3 * i + 2) 0) x else x / 2 ^ q.tn.getD (3 * i + 2) 0)
def ch (B e f g : Nat) : Nat := (e &&& f) ^^^ ((2 ^ B - 1 - e) &&& g)
def maj (a b c : Nat) : Nat := ((a &&& b) ^^^ (a &&& c)) ^^^ (b &&& c)
def be (l : List Nat) : Nat := l.foldl (fun x c => x * 256 + c) 0
def size (q : Kd) : Nat := q.B / 8

def word (q : Kd) (blk W : List Nat) (t : Nat) : Nat :=
  if t < 16 then be ((blk.drop (t * size q)).take (size q))
  else (mix q 3 (W.getD (t - 2) 0) + W.getD (t - 7) 0 + mix q 2 (W.getD (t - 15) 0) + W.getD (t - 16) 0) % 2 ^ q.B
def sched (q : Kd) (blk : List Nat) : Nat → List Nat
  | 0 => []
  | t + 1 => sched q blk t ++ [word q blk (sched q blk t) t]
def step (q : Kd) (k w : Nat) (V : V8) : V8 :=
  let t1 := V.h + mix q 1 V.e + ch q.B V.e V.f V.g + k + w
  ⟨(t1 + (mix q 0 V.a + maj V.a V.b V.c)) % 2 ^ q.B, V.a, V.b, V.c, (V.d + t1) % 2 ^ q.B, V.e, V.f, V.g⟩
def rounds (q : Kd) (W : List Nat) (S : V8) : Nat → V8
  | 0 => S
  | t + 1 => step q (q.ks.getD t 0) (W.getD t 0) (rounds q W S t)
def addV (B : Nat) (S V : V8) : V8 := ⟨(S.a + V.a) % 2 ^ B, (S.b + V.b) % 2 ^ B, (S.c + V.c) % 2 ^ B, (S.d + V.d) % 2 ^ B, (S.e + V.e) % 2 ^ B, (S.f + V.f) % 2 ^ B, (S.g + V.g) % 2 ^ B, (S.h + V.h) % 2 ^ B⟩
def comp (q : Kd) (S : V8) (blk : List Nat) : V8 := addV q.B S (rounds q (sched q blk q.n) S q.n)
/-- j blocks. -/
def run (q : Kd) (l : List Nat) : Nat → V8
  | 0 => V8.of q.hs
  | j + 1 => comp q (run q l j) ((l.drop (j * (16 * size q))).take (16 * size q))

/-- m bytes of a number, the highest first. -/
def bytes (m x : Nat) : List Nat := (List.range m).map fun k => x / 2 ^ (8 * (m - 1 - k)) % 256
/-- How many noughts: behind them one block lacks a quarter of a word's bits in bytes. -/
def fillN (q : Kd) (n : Nat) : Nat := (2 * (16 * size q) - 2 * size q - (n + 1) % (16 * size q)) % (16 * size q)
def pad (q : Kd) (n : Nat) : List Nat := 128 :: (List.replicate (fillN q n) 0 ++ bytes (2 * size q) (8 * n))
def full (q : Kd) (l : List Nat) : List Nat := l ++ pad q l.length
def out (q : Kd) (S : V8) : List Nat := S.l.flatMap (bytes (size q))
def sum (q : Kd) (l : List Nat) : List Nat := out q (run q (full q l) ((full q l).length / (16 * size q)))

def ks512 : List Nat := [4794697086780616226, 8158064640168781261, 13096744586834688815, 16840607885511220156, 4131703408338449720, 6480981068601479193, 10538285296894168987, 12329834152419229976, 15566598209576043074, 1334009975649890238, 2608012711638119052, 6128411473006802146, 8268148722764581231, 9286055187155687089, 11230858885718282805, 13951009754708518548, 16472876342353939154, 17275323862435702243, 1135362057144423861, 2597628984639134821, 3308224258029322869, 5365058923640841347, 6679025012923562964, 8573033837759648693, 10970295158949994411, 12119686244451234320, 12683024718118986047, 13788192230050041572, 14330467153632333762, 15395433587784984357, 489312712824947311, 1452737877330783856, 2861767655752347644, 3322285676063803686, 5560940570517711597, 5996557281743188959, 7280758554555802590, 8532644243296465576, 9350256976987008742, 10552545826968843579, 11727347734174303076, 12113106623233404929, 14000437183269869457, 14369950271660146224, 15101387698204529176, 15463397548674623760, 17586052441742319658, 1182934255886127544, 1847814050463011016, 2177327727835720531, 2830643537854262169, 3796741975233480872, 4115178125766777443, 5681478168544905931, 6601373596472566643, 7507060721942968483, 8399075790359081724, 8693463985226723168, 9568029438360202098, 10144078919501101548, 10430055236837252648, 11840083180663258601, 13761210420658862357, 14299343276471374635, 14566680578165727644, 15097957966210449927, 16922976911328602910, 17689382322260857208, 500013540394364858, 748580250866718886, 1242879168328830382, 1977374033974150939, 2944078676154940804, 3659926193048069267, 4368137639120453308, 4836135668995329356, 5532061633213252278, 6448918945643986474, 6902733635092675308, 7801388544844847127]
def hs512 : List Nat := [7640891576956012808, 13503953896175478587, 4354685564936845355, 11912009170470909681, 5840696475078001361, 11170449401992604703, 2270897969802886507, 6620516959819538809]
def k512 : Kd := ⟨64, 80, [28, 34, 39, 14, 18, 41, 1, 8, 7, 19, 61, 6], ks512, hs512⟩
def ks256 : List Nat := [1116352408, 1899447441, 3049323471, 3921009573, 961987163, 1508970993, 2453635748, 2870763221, 3624381080, 310598401, 607225278, 1426881987, 1925078388, 2162078206, 2614888103, 3248222580, 3835390401, 4022224774, 264347078, 604807628, 770255983, 1249150122, 1555081692, 1996064986, 2554220882, 2821834349, 2952996808, 3210313671, 3336571891, 3584528711, 113926993, 338241895, 666307205, 773529912, 1294757372, 1396182291, 1695183700, 1986661051, 2177026350, 2456956037, 2730485921, 2820302411, 3259730800, 3345764771, 3516065817, 3600352804, 4094571909, 275423344, 430227734, 506948616, 659060556, 883997877, 958139571, 1322822218, 1537002063, 1747873779, 1955562222, 2024104815, 2227730452, 2361852424, 2428436474, 2756734187, 3204031479, 3329325298]
def hs256 : List Nat := [1779033703, 3144134277, 1013904242, 2773480762, 1359893119, 2600822924, 528734635, 1541459225]
def k256 : Kd := ⟨32, 64, [2, 13, 22, 6, 11, 25, 7, 18, 3, 17, 19, 10], ks256, hs256⟩

/-! ### words -/
theorem mod_two_pow_le {B m x : Nat} (h : B ≤ m) : x % 2 ^ m % 2 ^ B = x % 2 ^ B := Nat.mod_mod_of_dvd _ (Nat.pow_dvd_pow 2 h)
theorem cut_eq {B x : Nat} (h : B ≤ 64) : x * 2 ^ (64 - B) % 2 ^ 64 / 2 ^ (64 - B) = x % 2 ^ B := by
  have e : 2 ^ 64 = 2 ^ (64 - B) * 2 ^ B := by rw [← Nat.pow_add]; congr 1; omega
  rw [e, Nat.mul_comm x, Nat.mul_mod_mul_left, Nat.mul_div_cancel_left _ (Nat.two_pow_pos _)]
theorem ror_or {B n x : Nat} (hn : n < B) (hx : x < 2 ^ B) : (x * 2 ^ (B - n) % 2 ^ B) ||| (x / 2 ^ n) = ror B n x := by
  have e : 2 ^ B = 2 ^ (B - n) * 2 ^ n := by rw [← Nat.pow_add]; congr 1; omega
  have h1 : x * 2 ^ (B - n) % 2 ^ B = 2 ^ (B - n) * (x % 2 ^ n) := by rw [e, Nat.mul_comm x, Nat.mul_mod_mul_left]
  have h2 : x / 2 ^ n < 2 ^ (B - n) := by
    apply Nat.div_lt_of_lt_mul
    rw [Nat.mul_comm, ← e]; exact hx
  have h3 : 2 ^ (B - n) * (x % 2 ^ n) + x / 2 ^ n < 2 ^ B := by
    have h4 := Nat.mod_lt x (Nat.two_pow_pos n)
    have h5 : 2 ^ (B - n) * (x % 2 ^ n + 1) ≤ 2 ^ (B - n) * 2 ^ n := Nat.mul_le_mul_left _ h4
    rw [Nat.mul_add, Nat.mul_one, ← e] at h5
    omega
  have h6 : ror B n x = 2 ^ (B - n) * (x % 2 ^ n) + x / 2 ^ n := by
    unfold ror
    rw [Nat.add_mod, h1, Nat.mod_eq_of_lt (Nat.lt_of_lt_of_le h2 (Nat.pow_le_pow_right (by omega) (by omega)) : x / 2 ^ n < 2 ^ B), Nat.add_comm, Nat.mod_eq_of_lt h3]
  rw [h1, h6, Nat.two_pow_add_eq_or_of_lt h2]
theorem ror_ref {B n x : Nat} (h : B ≤ 64) : (x / 2 ^ n + x * 2 ^ (B - n) % 2 ^ 64) % 2 ^ 64 % 2 ^ B = ror B n x := by
  unfold ror
  rw [mod_two_pow_le h, Nat.add_mod, mod_two_pow_le h, ← Nat.add_mod]
theorem ror_lt (B n x : Nat) : ror B n x < 2 ^ B := Nat.mod_lt _ (Nat.two_pow_pos _)
theorem mix_lt {q : Kd} {i x : Nat} (hx : x < 2 ^ q.B) : mix q i x < 2 ^ q.B := by
  unfold mix
  refine Nat.xor_lt_two_pow (Nat.xor_lt_two_pow (ror_lt _ _ _) (ror_lt _ _ _)) ?_
  split
  · exact ror_lt _ _ _
  · exact Nat.lt_of_le_of_lt (Nat.div_le_self _ _) hx
theorem ch_lt {B e f g : Nat} (he : e < 2 ^ B) (hg : g < 2 ^ B) : ch B e f g < 2 ^ B :=
  Nat.xor_lt_two_pow (Nat.lt_of_le_of_lt Nat.and_le_left he) (Nat.lt_of_le_of_lt Nat.and_le_right hg)
theorem com_and {B m e g : Nat} (h : B ≤ m) (he : e < 2 ^ B) (hg : g < 2 ^ B) : (2 ^ m - 1 - e) &&& g = (2 ^ B - 1 - e) &&& g := by
  apply Nat.eq_of_testBit_eq
  intro i
  have em : e < 2 ^ m := Nat.lt_of_lt_of_le he (Nat.pow_le_pow_right (by omega) h)
  have e1 : 2 ^ m - 1 - e = 2 ^ m - (e + 1) := by omega
  have e2 : 2 ^ B - 1 - e = 2 ^ B - (e + 1) := by omega
  rw [Nat.testBit_and, Nat.testBit_and, e1, e2, Nat.testBit_two_pow_sub_succ em, Nat.testBit_two_pow_sub_succ he]
  by_cases hi : i < B
  · simp [hi, Nat.lt_of_lt_of_le hi h]
  · have : g.testBit i = false := Nat.testBit_lt_two_pow (Nat.lt_of_lt_of_le hg (Nat.pow_le_pow_right (by omega) (by omega)))
    simp [this]
theorem ch_ref {B e f g : Nat} (h : B ≤ 64) (he : e < 2 ^ B) (hg : g < 2 ^ B) : ((e &&& f) ^^^ ((2 ^ 64 - 1 - e) &&& g)) % 2 ^ B = ch B e f g := by
  rw [com_and h he hg]
  exact Nat.mod_eq_of_lt (ch_lt he hg)

/-! ### the schedule -/
theorem sched_len (q : Kd) (blk : List Nat) : ∀ t, (sched q blk t).length = t
  | 0 => rfl
  | t + 1 => by rw [sched, List.length_append, sched_len q blk t]; rfl
theorem sched_set {q : Kd} {blk : List Nat} {n t v : Nat} (h : t < n) (hv : v = word q blk (sched q blk t) t) : (sched q blk t ++ List.replicate (n - t) 0).set t v = sched q blk (t + 1) ++ List.replicate (n - (t + 1)) 0 := by
  obtain ⟨m, rfl⟩ : ∃ m, n = t + 1 + m := ⟨n - (t + 1), by omega⟩
  rw [show t + 1 + m - t = m + 1 by omega, show t + 1 + m - (t + 1) = m by omega, List.replicate_succ, sched, List.append_assoc, hv]
  rw [List.set_append_right _ _ (by rw [sched_len]; omega), sched_len, Nat.sub_self]; rfl
theorem sched_get {q : Kd} {blk r : List Nat} {t i x : Nat} (hi : i < t) (h : (sched q blk t ++ r)[i]? = some x) : x = (sched q blk t).getD i 0 := by
  rw [List.getElem?_append_left (by rw [sched_len]; exact hi)] at h
  simp [List.getD, h]
theorem be_step (l : List Nat) (c : Nat) : be (l ++ [c]) = be l * 256 + c := by simp [be]
theorem be_fold : ∀ (l : List Nat) (x : Nat), (∀ u ∈ l, u < 256) → l.foldl (fun x c => x * 256 + c) x < (x + 1) * 256 ^ l.length
  | [], x, _ => by simp
  | c :: l, x, h => by
    have h2 := h c (by simp)
    have h1 := be_fold l (x * 256 + c) fun u hu => h u (by simp [hu])
    rw [List.foldl_cons, List.length_cons, Nat.pow_succ]
    refine Nat.lt_of_lt_of_le h1 ?_
    rw [Nat.mul_comm (256 ^ l.length), ← Nat.mul_assoc]
    exact Nat.mul_le_mul_right _ (by omega)
theorem be_lt (l : List Nat) (h : ∀ u ∈ l, u < 256) : be l < 256 ^ l.length := by
  have := be_fold l 0 h
  rwa [Nat.zero_add, Nat.one_mul] at this
theorem word_lt {q : Kd} {blk : List Nat} (h8 : 256 ^ size q = 2 ^ q.B) (h : ∀ u ∈ blk, u < 256) (W : List Nat) (t : Nat) : word q blk W t < 2 ^ q.B := by
  unfold word
  split
  · rw [← h8]
    refine Nat.lt_of_lt_of_le (be_lt _ fun u hu => h u (List.mem_of_mem_drop (List.mem_of_mem_take hu))) (Nat.pow_le_pow_right (by omega) ?_)
    rw [List.length_take]; omega
  · exact Nat.mod_lt _ (Nat.two_pow_pos _)
theorem sched_lt {q : Kd} {blk : List Nat} (h8 : 256 ^ size q = 2 ^ q.B) (h : ∀ u ∈ blk, u < 256) : ∀ t, ∀ u ∈ sched q blk t, u < 2 ^ q.B
  | 0, u, hu => by simp [sched] at hu
  | t + 1, u, hu => by
    rw [sched, List.mem_append] at hu
    rcases hu with hu | hu
    · exact sched_lt h8 h t u hu
    · rw [List.mem_singleton] at hu
      rw [hu]; exact word_lt h8 h _ _

/-! ### rounds -/
theorem V8.ltl {m : Nat} {V : V8} (h : V.lt m) : ∀ u ∈ V.l, u < m := by
  obtain ⟨h1, h2, h3, h4, h5, h6, h7, h8⟩ := h
  intro u hu
  simp only [V8.l, List.mem_cons, List.not_mem_nil, or_false] at hu
  rcases hu with rfl | rfl | rfl | rfl | rfl | rfl | rfl | rfl <;> assumption
theorem step_lt {q : Kd} {k w : Nat} {V : V8} (h : V.lt (2 ^ q.B)) : (step q k w V).lt (2 ^ q.B) := by
  obtain ⟨h1, h2, h3, h4, h5, h6, h7, h8⟩ := h
  exact ⟨Nat.mod_lt _ (Nat.two_pow_pos _), h1, h2, h3, Nat.mod_lt _ (Nat.two_pow_pos _), h5, h6, h7⟩
theorem rounds_lt {q : Kd} {W : List Nat} {S : V8} (h : S.lt (2 ^ q.B)) : ∀ t, (rounds q W S t).lt (2 ^ q.B)
  | 0 => h
  | t + 1 => step_lt (rounds_lt h t)
theorem addV_lt (B : Nat) (S V : V8) : (addV B S V).lt (2 ^ B) :=
  ⟨Nat.mod_lt _ (Nat.two_pow_pos _), Nat.mod_lt _ (Nat.two_pow_pos _), Nat.mod_lt _ (Nat.two_pow_pos _), Nat.mod_lt _ (Nat.two_pow_pos _), Nat.mod_lt _ (Nat.two_pow_pos _), Nat.mod_lt _ (Nat.two_pow_pos _), Nat.mod_lt _ (Nat.two_pow_pos _), Nat.mod_lt _ (Nat.two_pow_pos _)⟩
theorem run_lt {q : Kd} (h : (V8.of q.hs).lt (2 ^ q.B)) (l : List Nat) : ∀ j, (run q l j).lt (2 ^ q.B)
  | 0 => h
  | _ + 1 => addV_lt _ _ _

/-! ### bytes -/
theorem bytes_len (m x : Nat) : (bytes m x).length = m := by simp [bytes]
theorem bytes_lt (m x : Nat) : ∀ u ∈ bytes m x, u < 256 := by
  intro u hu
  simp only [bytes, List.mem_map] at hu
  obtain ⟨k, _, rfl⟩ := hu
  exact Nat.mod_lt _ (by decide)
theorem bytes_succ (m x : Nat) : bytes (m + 1) x = (x / 2 ^ (8 * m) % 256) :: bytes m x := by
  unfold bytes
  rw [List.range_succ_eq_map, List.map_cons, List.map_map]
  congr 1
  refine List.map_congr_left fun k hk => ?_
  have : k < m := List.mem_range.1 hk
  simp only [Function.comp_apply]
  rw [show m + 1 - 1 - (k + 1) = m - 1 - k by omega]
theorem bytes_get {m x i : Nat} (h : i < m) : (bytes m x)[i]? = some (x / 2 ^ (8 * (m - 1 - i)) % 256) := by
  unfold bytes
  rw [List.getElem?_map, List.getElem?_range h]; rfl
theorem flat_get {m : Nat} (hm : 0 < m) : ∀ (l : List Nat) (i : Nat), i < l.length * m → (l.flatMap (bytes m))[i]? = some (l.getD (i / m) 0 / 2 ^ (8 * (m - 1 - i % m)) % 256)
  | [], i, h => by simp at h
  | x :: l, i, h => by
    rw [List.flatMap_cons]
    by_cases hi : i < m
    · rw [List.getElem?_append_left (by rw [bytes_len]; exact hi), bytes_get hi, Nat.div_eq_of_lt hi, Nat.mod_eq_of_lt hi]; rfl
    · obtain ⟨j, rfl⟩ : ∃ j, i = m + j := ⟨i - m, by omega⟩
      rw [List.getElem?_append_right (by rw [bytes_len]; omega), bytes_len, Nat.add_sub_cancel_left]
      rw [List.length_cons, Nat.succ_mul] at h
      rw [flat_get hm l j (by omega), Nat.add_div_left _ hm, Nat.add_mod_left]
      simp [List.getD]
theorem out_len (q : Kd) (S : V8) : (out q S).length = 8 * size q := by
  simp only [out, V8.l, List.flatMap_cons, List.flatMap_nil, List.length_append, bytes_len, List.length_nil]; omega
theorem out_lt (q : Kd) (S : V8) : ∀ u ∈ out q S, u < 256 := by
  intro u hu
  obtain ⟨x, _, h⟩ := List.mem_flatMap.1 hu
  exact bytes_lt _ _ u h
theorem out_get {q : Kd} {S : V8} {i : Nat} (hq : 0 < size q) (h : i < 8 * size q) : (out q S)[i]? = some (S.l.getD (i / size q) 0 / 2 ^ (8 * (size q - 1 - i % size q)) % 256) :=
  flat_get hq S.l i h
theorem take_set {l : List Nat} {i n x : Nat} (hi : i < n) (hn : l.length = n) (hx : l[i]? = some x) : (l.take i ++ List.replicate (n - i) 0).set i x = l.take (i + 1) ++ List.replicate (n - (i + 1)) 0 := by
  obtain ⟨m, rfl⟩ : ∃ m, n = i + 1 + m := ⟨n - (i + 1), by omega⟩
  have h1 : (l.take i).length = i := by rw [List.length_take]; omega
  rw [show i + 1 + m - i = m + 1 by omega, show i + 1 + m - (i + 1) = m by omega, List.replicate_succ, List.set_append_right _ _ (by omega), h1, Nat.sub_self, List.take_add_one, hx]
  simp
theorem take_snoc {l : List Nat} {i x : Nat} (hx : l[i]? = some x) : l.take i ++ [x] = l.take (i + 1) := by
  rw [List.take_add_one, hx]; rfl

/-! ### filling up -/
theorem pad_eq {q : Kd} {n : Nat} (hq : 4 ≤ size q) (hn : 8 * n < 2 ^ 64) : pad q n = 128 :: (List.replicate (fillN q n + (2 * size q - 8)) 0 ++ bytes 8 (8 * n)) := by
  have key : ∀ m, bytes (m + 8) (8 * n) = List.replicate m 0 ++ bytes 8 (8 * n) := by
    intro m
    induction m with
    | zero => rw [Nat.zero_add]; rfl
    | succ m ih =>
      have h0 : 8 * n / 2 ^ (8 * (m + 8)) = 0 := Nat.div_eq_of_lt (Nat.lt_of_lt_of_le hn (Nat.pow_le_pow_right (by omega) (by omega)))
      rw [show m + 1 + 8 = m + 8 + 1 by omega, bytes_succ, ih, h0, List.replicate_succ]; rfl
  unfold pad
  obtain ⟨m, hm⟩ : ∃ m, 2 * size q = m + 8 := ⟨2 * size q - 8, by omega⟩
  rw [hm, key m, Nat.add_sub_cancel, ← List.append_assoc (List.replicate _ _), List.replicate_append_replicate]
theorem pad_lt (q : Kd) (n : Nat) : ∀ u ∈ pad q n, u < 256 := by
  intro u hu
  simp only [pad, List.mem_cons, List.mem_append, List.mem_replicate] at hu
  rcases hu with rfl | ⟨_, rfl⟩ | hu
  · decide
  · decide
  · exact bytes_lt _ _ u hu
theorem full_lt {q : Kd} {l : List Nat} (h : ∀ u ∈ l, u < 256) : ∀ u ∈ full q l, u < 256 := by
  intro u hu
  rcases List.mem_append.1 hu with hu | hu
  · exact h u hu
  · exact pad_lt _ _ u hu
theorem pad_len (q : Kd) (n : Nat) : (pad q n).length = 1 + (fillN q n + 2 * size q) := by
  simp only [pad, List.length_cons, List.length_append, List.length_replicate, bytes_len]; omega
theorem full_mod {q : Kd} (hq : size q = 4 ∨ size q = 8) (l : List Nat) : (full q l).length % (16 * size q) = 0 := by
  rw [full, List.length_append, pad_len, fillN]
  rcases hq with h | h <;> rw [h] <;> omega
theorem full_drop {q : Kd} {l : List Nat} {i : Nat} (h : i ≤ l.length) : (full q l).drop i = l.drop i ++ pad q l.length := by
  rw [full, List.drop_append_of_le_length h]
theorem full_blk {q : Kd} {l : List Nat} {i m : Nat} (h : i + m ≤ l.length) : ((full q l).drop i).take m = (l.drop i).take m := by
  rw [full_drop (by omega), List.take_append_of_le_length (by rw [List.length_drop]; omega)]
theorem sum_len (q : Kd) (l : List Nat) : (sum q l).length = 8 * size q := out_len _ _
theorem sum_lt (q : Kd) (l : List Nat) : ∀ u ∈ sum q l, u < 256 := out_lt _ _
theorem bit256 : 256 ^ size k256 = 2 ^ k256.B := by decide
theorem bit512 : 256 ^ size k512 = 2 ^ k512.B := by decide
theorem lt256 : (V8.of k256.hs).lt (2 ^ k256.B) := by decide
theorem lt512 : (V8.of k512.hs).lt (2 ^ k512.B) := by decide
theorem ks256_len : k256.ks.length = 64 := by decide
theorem ks512_len : k512.ks.length = 80 := by decide
theorem ks256_lt : ∀ u ∈ k256.ks, u < 2 ^ 32 := by decide
theorem ks512_lt : ∀ u ∈ k512.ks, u < 2 ^ 64 := by decide
theorem ks_ref : ∀ t, t < 64 → k512.ks.getD t 0 / 2 ^ 32 = k256.ks.getD t 0 := by decide
theorem hs_ref : ∀ t, t < 8 → k512.hs.getD t 0 / 2 ^ 32 = k256.hs.getD t 0 := by decide
end Sm
