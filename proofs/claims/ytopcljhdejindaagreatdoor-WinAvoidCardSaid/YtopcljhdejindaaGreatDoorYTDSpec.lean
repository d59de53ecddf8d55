import Derived.Test.YtopcljhdejindaaGreatDoorYTfrcSpec
set_option linter.all false
namespace Go.Sx.T
open Go Go.Sx
def TfrcDoubles_10_B  {α : Type} (kx : Nat → List Leaf → Option α) (kr : List Leaf → Option α) (again : List Int → List Int → List Int → Int → Int → Int → Int → Bool → Int → Bool → Bool → Int → Int → Int → Int → Int → Int → Option α) (xs : List Int) (t_set_l0 : List Int) (t_set_l1 : List Int) (t_s : Int) (t_x : Int) (t_loss : Int) (t_rtt : Int) (t_heard : Bool) (t_doubled : Int) (t_began : Bool) (t_started : Bool) (t_due : Int) (i : Int) (r : Int) (size : Int) (first : Int) (now : Int) : Option α :=
  one (Int.ofNat (List.length xs)) fun x1856 =>
  br (decide (i < x1856))
    (br (decide (i < 20))
       (chk (decide (Int.ofNat (List.length t_set_l0) = Int.ofNat (List.length t_set_l0)) && true && true) <|
        out (tfrc_Rate t_set_l0 t_set_l1 t_s t_x t_loss t_rtt t_heard t_doubled t_began t_started t_due) fun r1857 =>
        un_i r1857 fun x1858 r1859 =>
        un_nil r1859 <|
        one (addI .i64 r 1) fun x1860 =>
        one (addI .i64 now x1860) fun x1861 =>
        chk (decide (0 ≤ i ∧ i < Int.ofNat (List.length xs))) <|
        chk (decide (0 ≤ i ∧ i < Int.ofNat (List.length xs))) <|
        chk (decide (Int.ofNat (List.length t_set_l0) = Int.ofNat (List.length t_set_l0)) && true && true) <|
        out (tfrc_Hear t_set_l0 t_set_l1 t_s t_x t_loss t_rtt t_heard t_doubled t_began t_started t_due x1861 r (List.getD xs (Int.toNat i) 0) 0 true) fun r1862 =>
        un_li r1862 fun x1863 r1864 =>
        un_li r1864 fun x1865 r1866 =>
        un_i r1866 fun x1867 r1868 =>
        un_i r1868 fun x1869 r1870 =>
        un_i r1870 fun x1871 r1872 =>
        un_i r1872 fun x1873 r1874 =>
        un_b r1874 fun x1875 r1876 =>
        un_i r1876 fun x1877 r1878 =>
        un_b r1878 fun x1879 r1880 =>
        un_b r1880 fun x1881 r1882 =>
        un_i r1882 fun x1883 r1884 =>
        un_nil r1884 <|
        chk (decide (Int.ofNat (List.length x1863) = Int.ofNat (List.length x1863)) && true && true) <|
        out (tfrc_Rate x1863 x1865 x1867 x1869 x1871 x1873 x1875 x1877 x1879 x1881 x1883) fun r1885 =>
        un_i r1885 fun x1886 r1887 =>
        un_nil r1887 <|
        one (mulI .u64 2 x1858) fun x1888 =>
        one (maxI x1888 first) fun x1889 =>
        br (decide (x1886 > x1889))
          (kr [.li (xs), .b (false)])
          (chk (decide (Int.ofNat (List.length x1863) = Int.ofNat (List.length x1863)) && true && true) <|
           out (tfrc_Rate x1863 x1865 x1867 x1869 x1871 x1873 x1875 x1877 x1879 x1881 x1883) fun r1890 =>
           un_i r1890 fun x1891 r1892 =>
           un_nil r1892 <|
           one (wrapI .u64 size) fun x1893 =>
           br (decide (x1891 < x1893))
             (kr [.li (xs), .b (false)])
             (chk (decide (Int.ofNat (List.length x1863) = Int.ofNat (List.length x1863)) && true && true) <|
              out (tfrc_Rtt x1863 x1865 x1867 x1869 x1871 x1873 x1875 x1877 x1879 x1881 x1883) fun r1894 =>
              un_i r1894 fun x1895 r1896 =>
              un_nil r1896 <|
              br (decide (x1895 > r))
                (kr [.li (xs), .b (false)])
                (chk (decide (Int.ofNat (List.length x1863) = Int.ofNat (List.length x1863)) && true && true) <|
                 out (tfrc_Rate x1863 x1865 x1867 x1869 x1871 x1873 x1875 x1877 x1879 x1881 x1883) fun r1897 =>
                 un_i r1897 fun x1898 r1899 =>
                 un_nil r1899 <|
                 chk (decide (0 ≤ i ∧ i < Int.ofNat (List.length xs))) <|
                 chk (decide (0 ≤ i ∧ i < Int.ofNat (List.length xs))) <|
                 chk (decide (Int.ofNat (List.length x1863) = Int.ofNat (List.length x1863)) && true && true) <|
                 out (tfrc_Hear x1863 x1865 x1867 x1869 x1871 x1873 x1875 x1877 x1879 x1881 x1883 x1861 r (List.getD xs (Int.toNat i) 0) 0 true) fun r1900 =>
                 un_li r1900 fun x1901 r1902 =>
                 un_li r1902 fun x1903 r1904 =>
                 un_i r1904 fun x1905 r1906 =>
                 un_i r1906 fun x1907 r1908 =>
                 un_i r1908 fun x1909 r1910 =>
                 un_i r1910 fun x1911 r1912 =>
                 un_b r1912 fun x1913 r1914 =>
                 un_i r1914 fun x1915 r1916 =>
                 un_b r1916 fun x1917 r1918 =>
                 un_b r1918 fun x1919 r1920 =>
                 un_i r1920 fun x1921 r1922 =>
                 un_nil r1922 <|
                 chk (decide (Int.ofNat (List.length x1901) = Int.ofNat (List.length x1901)) && true && true) <|
                 out (tfrc_Rate x1901 x1903 x1905 x1907 x1909 x1911 x1913 x1915 x1917 x1919 x1921) fun r1923 =>
                 un_i r1923 fun x1924 r1925 =>
                 un_nil r1925 <|
                 br (x1924 != x1898)
                   (kr [.li (xs), .b (false)])
                   (one (addI .i64 i 1) fun x1926 =>
                    chk (decide (Int.ofNat (List.length x1901) = Int.ofNat (List.length x1901)) && true && true) <|
                    chk (decide (Int.ofNat (List.length xs) = Int.ofNat (List.length xs)) && true) <|
                    again (xs) (x1901) (x1903) (x1905) (x1907) (x1909) (x1911) (x1913) (x1915) (x1917) (x1919) (x1921) (x1926) (r) (size) (first) (x1861))))))
       (kx 0 [.li (xs)]))
    (kx 0 [.li (xs)])
def TfrcDoubles_10_L {α : Type} (kx : Nat → List Leaf → Option α) (kr : List Leaf → Option α) : Nat → List Int → List Int → List Int → Int → Int → Int → Int → Bool → Int → Bool → Bool → Int → Int → Int → Int → Int → Int → Option α
  | 0, _, _, _, _, _, _, _, _, _, _, _, _, _, _, _, _, _ => none
  | n + 1, xs, t_set_l0, t_set_l1, t_s, t_x, t_loss, t_rtt, t_heard, t_doubled, t_began, t_started, t_due, i, r, size, first, now => TfrcDoubles_10_B  kx kr (TfrcDoubles_10_L kx kr n) xs t_set_l0 t_set_l1 t_s t_x t_loss t_rtt t_heard t_doubled t_began t_started t_due i r size first now
def TfrcDoubles_10_F (L10 : ({β : Type} → (Nat → List Leaf → Option β) → (List Leaf → Option β) → Nat → List Int → List Int → List Int → Int → Int → Int → Int → Bool → Int → Bool → Bool → Int → Int → Int → Int → Int → Int → Option β)) {α : Type} (n : Nat) (ls : List Leaf) (kx : Nat → List Leaf → Option α) (kr : List Leaf → Option α) : Option α := un_li ls fun xs rr => un_li rr fun t_set_l0 rr => un_li rr fun t_set_l1 rr => un_i rr fun t_s rr => un_i rr fun t_x rr => un_i rr fun t_loss rr => un_i rr fun t_rtt rr => un_b rr fun t_heard rr => un_i rr fun t_doubled rr => un_b rr fun t_began rr => un_b rr fun t_started rr => un_i rr fun t_due rr => un_i rr fun i rr => un_i rr fun r rr => un_i rr fun size rr => un_i rr fun first rr => un_i rr fun now rr => un_nil rr (L10 kx kr n xs t_set_l0 t_set_l1 t_s t_x t_loss t_rtt t_heard t_doubled t_began t_started t_due i r size first now)
def TfrcDoubles_d (L10 : ({β : Type} → (Nat → List Leaf → Option β) → (List Leaf → Option β) → Nat → List Int → List Int → List Int → Int → Int → Int → Int → Bool → Int → Bool → Bool → Int → Int → Int → Int → Int → Int → Option β)) (xs : List Int) (size : Int) (r : Int) : Option (List Leaf) :=
  one (remI .i64 size 1400) fun x1927 =>
  one (addI .i64 x1927 1400) fun x1928 =>
  one (remI .i64 x1928 1400) fun x1929 =>
  one (addI .i64 1 x1929) fun x1930 =>
  one (minI r 16777216) fun x1931 =>
  one (maxI 0 x1931) fun x1932 =>
  one (addI .i64 1000 x1932) fun x1933 =>
  out (tfrc_New x1930) fun r1934 =>
  un_li r1934 fun x1935 r1936 =>
  un_li r1936 fun x1937 r1938 =>
  un_i r1938 fun x1939 r1940 =>
  un_i r1940 fun x1941 r1942 =>
  un_i r1942 fun x1943 r1944 =>
  un_i r1944 fun x1945 r1946 =>
  un_b r1946 fun x1947 r1948 =>
  un_i r1948 fun x1949 r1950 =>
  un_b r1950 fun x1951 r1952 =>
  un_b r1952 fun x1953 r1954 =>
  un_i r1954 fun x1955 r1956 =>
  un_nil r1956 <|
  chk (decide (Int.ofNat (List.length x1935) = Int.ofNat (List.length x1935)) && true && true) <|
  out (tfrc_Hear x1935 x1937 x1939 x1941 x1943 x1945 x1947 x1949 x1951 x1953 x1955 0 x1933 1099511627776 0 false) fun r1957 =>
  un_li r1957 fun x1958 r1959 =>
  un_li r1959 fun x1960 r1961 =>
  un_i r1961 fun x1962 r1963 =>
  un_i r1963 fun x1964 r1965 =>
  un_i r1965 fun x1966 r1967 =>
  un_i r1967 fun x1968 r1969 =>
  un_b r1969 fun x1970 r1971 =>
  un_i r1971 fun x1972 r1973 =>
  un_b r1973 fun x1974 r1975 =>
  un_b r1975 fun x1976 r1977 =>
  un_i r1977 fun x1978 r1979 =>
  un_nil r1979 <|
  chk (decide (Int.ofNat (List.length x1958) = Int.ofNat (List.length x1958)) && true && true) <|
  out (tfrc_Rate x1958 x1960 x1962 x1964 x1966 x1968 x1970 x1972 x1974 x1976 x1978) fun r1980 =>
  un_i r1980 fun x1981 r1982 =>
  un_nil r1982 <|
  chk (decide (Int.ofNat (List.length x1958) = Int.ofNat (List.length x1958)) && true && true) <|
  chk (decide (Int.ofNat (List.length xs) = Int.ofNat (List.length xs)) && true) <|
  L10
    (fun i1983 r1984 =>
     br (Nat.beq 0 i1983)
       (un_li r1984 fun x1985 r1986 =>
        un_nil r1986 <|
        some [.b (true)])
       (none))
    (fun r1987 =>
     un_li r1987 fun x1988 r1989 =>
     un_b r1989 fun x1990 r1991 =>
     un_nil r1991 <|
     some [.b (x1990)])
    top (xs) (x1958) (x1960) (x1962) (x1964) (x1966) (x1968) (x1970) (x1972) (x1974) (x1976) (x1978) (0) (x1933) (x1930) (x1981) (0)
def TfrcDoubles (xs : List Int) (size : Int) (r : Int) : Option (List Leaf) := TfrcDoubles_d @TfrcDoubles_10_L xs size r
end Go.Sx.T

